/- What the trees compute: plain laws. -/
import Derived.Test.YtogfeeabnklegaaGreatDoorKBe4
set_option linter.all false
namespace Go.Proofs.YtogfeeabnklegaaGreatDoor
open Go Go.aP
set_option maxRecDepth 100000
namespace B
mutual
def Q7:aK->List UInt8
 |.mk t y n s k=>aS (4*t+y).toNat++(if y=0 then aS n.toNat else if y=1 then aS s.length++s else aS (dL k).length++dL k)
def dL:List aK->List UInt8
 |[]=>[]
 |f::l=>Q7 f++dL l
end
mutual
def wF:aK->Nat
 |.mk _ _ _ s k=>s.length+40+wL k
def wL:List aK->Nat
 |[]=>0
 |f::l=>wF f+wL l
end
mutual
def IY:aK->Prop
 |.mk t y n s k=>(1<=t/\t<=4294967296)/\((y=0/\s=[]/\k=[])\/(y=1/\n=0/\k=[])\/(y=2/\n=0/\s=[]))/\vk k
def vk:List aK->Prop
 |[]=>True
 |f::l=>IY f/\vk l
end
def TV:∀{l:List aK},vk l->∀f∈l,IY f
 |f::l,h,g,a=>by
  simp only[vk]at h;rcases bI.1 a with rfl|a
  ·exact h.1
  ·exact TV h.2 g a
def QK:∀(N:Nat)(l:List aK),dO l<N->fD l->∀w a,jR w a l=0->0<=a->vk l
 |0,l,h,_,_,_,_,_=>ah
 |N+1,[],_,_,_,_,_,_=>by simp only[vk]
 |N+1,.mk t y n s k::l,j,d,w,a,h,m=>by
  simp only[dO,xq]at j;simp only[fD,uU]at d;unfold jR at h;by_cases h1:(aK.mk t y n s k).tag=0
  ·rw[au h1]at h;exact absurd h aV
  rw[aj h1]at h;by_cases g:4294967296<(aK.mk t y n s k).tag
  ·rw[au g]at h;exact absurd h aV
  rw[aj g]at h;by_cases i:(aK.mk t y n s k).tag<=a
  ·rw[au i]at h;exact absurd h aV
  rw[aj i]at h;by_cases b:AA w (.mk t y n s k)=0;rotate_left
  ·rw[au b]at h;exact absurd h b
  rw[aj (λe=>e b)]at h;have h1:¬t=0:=h1;have g:¬4294967296<t:=g;have i:¬t<=a:=i;simp only[vk,IY];refine⟨⟨ah,?_,?_⟩,QK N l ah d.2 w t h ah⟩
  ·simp only[AA]at b;split at b
   ·rename_i f
    split at b
    ·rename_i c;exact .inl ⟨f,c⟩
    ·cases b
   ·split at b
    ·rename_i f
     split at b
     ·rename_i c;exact .inr (.inl ⟨f,c⟩)
     ·cases b
    ·split at b
     ·rename_i f
      split at b
      ·rename_i c;exact .inr (.inr ⟨f,c⟩)
      ·cases b
     ·cases b
  ·simp only[AA]at b;split at b
   ·split at b
    ·rename_i c;rw[c.2];simp only[vk]
    ·cases b
   ·split at b
    ·split at b
     ·rename_i c;rw[c.2];simp only[vk]
     ·cases b
    ·split at b
     ·split at b
      ·split at b
       ·cases b
       ·exact QK N k ah d.1.2 _ _ b ah
      ·cases b
     ·cases b
def J4:∀(N:Nat)(l:List aK),dO l<N->fD l->vk l->wL l<=1000000000000->(dL l).length<=wL l
 |0,l,h,_,_,_=>ah
 |N+1,[],_,_,_,_=>by simp[dL]
 |N+1,.mk t y n s k::l,c,b,a,d=>by
  simp only[dO,xq]at c;simp only[fD,uU]at b;simp only[vk,IY]at a;simp only[wL,wF]at d⊢;have h1:=J4 N l ah b.2 a.2 ah;have e:=J4 N k ah b.1.2 a.1.2.2 ah;simp only[dL,Q7,eH];have f:=nY (n:=(4*t+y).toNat) (by rcases a.1.2.1 with h|h|h<;>omega);have g:=nY (n:=n.toNat) ah;have i:=nY (n:=s.length) ah;have j:=nY (n:=(dL k).length) ah;split
  ·omega
  ·split
   ·rw[eH];omega
   ·rw[eH];omega
def ail(t y:Int)(h:1<=t/\t<=4294967296)(j:0<=y/\y<4):kT .shl .u64 t 2=some (.zu (4*t))/\IntKind.u64.wrap y=y/\dw .or .u64 (4*t) y=some (.zu (4*t+y)):=by
 have a:∀y:Int,IntKind.u64.wrap y=y%18446744073709551616:=λy=>by simp[IntKind.wrap,IntKind.signed,IntKind.bits]
 have c:IntKind.u64.bits=64:=rfl;refine⟨?_,by rw[a];omega,?_⟩
 ·have d:kT .shl .u64 t 2=some (.zu (IntKind.u64.wrap (t*2^2))):=rfl;rw[d,a];congr 2;omega
 ·simp only[dw,a,c];obtain⟨T,rfl⟩:∃T:Nat,t=(T:Int):=⟨t.toNat,ah⟩
  obtain⟨Y,rfl⟩:∃Y:Nat,y=(Y:Int):=⟨y.toNat,ah⟩
  have e:(BitVec.ofInt 64 (4*(T:Int))).toNat=4*T:=by rw[wo];omega
  have f:(BitVec.ofInt 64 (Y:Int)).toNat=Y:=by rw[wo];omega
  have g:4*T |||Y=4*T+Y:=(anx (i:=2) (b:=Y) ah T).symm;show some (GV.i IntKind.u64 (((BitVec.ofInt 64 (4*(T:Int)) |||BitVec.ofInt 64 (Y:Int)).toNat:Int)%18446744073709551616))=_
  rw[aer,e,f,g];congr 2;omega
def aaP{t y n:Int}{s:Q0}{k:List aK}(h:IY (.mk t y n s k)):1<=t/\t<=4294967296/\0<=y/\y<3/\(y=0\/y=1\/y=2)/\vk k:=by simp only[IY]at h;rcases h.2.1 with h1|h1|h1<;>exact⟨h.1.1,h.1.2,ah,ah,ah,h.2.2⟩
def adG:∀(N:Nat)(l:List aK),dO l<N->fD l->vk l->l.length<=1000000->wL l<=1000000000000->TT.lim 147 [.l (aI l)]=some [.zq (dL l).length]
 |0,l,h,_,_,_,_=>ah
 |N+1,l,hN,w,x,L,hw=>by
  have g:=qP l;have loop:∀m i,i+m=l.length->∀b:Nat,b+wL (l.drop i)<=1000000000000->TT.lim 148 [.l (aI l),.zq b,.zq l.length,.zq i]=some [.zq 0,.zq ((b+(dL (l.drop i)).length:Nat):Int)]:=by
   intro m;induction m with
   |zero=>intro i hi b c;have z:l.drop i=[]:=iK;have h:¬((i:Int)<l.length):=ah;rw[z];simp only[dL,lK,pY];refine aB ?_;simp[h]
   |succ m P=>
    intro i hi b c;obtain⟨t,y,n,s,k,g1,g2,g3,D⟩:=Ib (l:=l) (i:=i) ah;have u:=Ic w _ D;have Q:=TV x _ D;simp only[uU]at u;obtain⟨R,S,T,y2,U,M⟩:=aaP Q;have V:=YM D;simp only[xq]at V;rw[g3]at c⊢;simp only[wL,wF]at c;have W:=adG N k ah u.2 M u.1.2.2.2.2.2.2.2 ah;have X:=J4 (dO k+1) k ah u.2 M ah;obtain⟨E,F,G⟩:=ail t y ⟨R,S⟩ ⟨T,ah⟩;have v:=Pz (4*t+y).toNat ah;have O:=Pz n.toNat ah;have Y:=Pz s.length ah;have Z:=Pz (dL k).length ah;have z1:=I7 (n:=(4*t+y).toNat) ah;have z2:=I7 (n:=n.toNat) ah;have z3:=I7 (n:=s.length) ah;have z4:=I7 (n:=(dL k).length) ah;rw[(ah:(((4*t+y).toNat:Nat):Int)=4*t+y)]at v;rw[(ah:((n.toNat:Nat):Int)=n)]at O;have j:((i+1:Nat):Int)=(i:Int)+1:=ah;have o:=bH ((i:Int)+1);have h:((i:Int)<l.length):=ah;have e:=λa ha=>P (i+1) ah a ha;simp only[j]at e;have z:(aS (4*t+y).toNat).length=fZ (4*t+y).toNat:=rfl;have e2:(aS n.toNat).length=fZ n.toNat:=rfl;have e3:(aS s.length).length=fZ s.length:=rfl;have e4:(aS (dL k).length).length=fZ (dL k).length:=rfl;have u3:=jV ((s.length:Int));have u4:=jV (((dL k).length:Int));simp only[dL,Q7,eH];rw[z];generalize fZ (4*t+y).toNat=A at *;have w1:=bH ((b:Int)+A);rcases U with d|d|d
    ·rw[au d,e2];generalize fZ n.toNat=B at *;have p:=bH ((b:Int)+A+B);have f:=e (b+A+B) ah;rw[(ah:((b+A+B:Nat):Int)=(b:Int)+A+B),(ah:b+A+B+(dL (l.drop (i+1))).length=b+(A+B+(dL (l.drop (i+1))).length))]at f;have q:(y=0)=True:=eq_true d;clear d;refine aB ?_;simp[h,g2,q,E,F,G,v,O,w1,p,o,f]
    ·rw[bU,au d,eH,e3];generalize fZ s.length=B at *;have p:=bH ((B:Int)+s.length);have H:=bH ((b:Int)+A+(B+s.length));have f:=e (b+A+(B+s.length)) ah;rw[(ah:((b+A+(B+s.length):Nat):Int)=(b:Int)+A+(B+s.length)),(ah:b+A+(B+s.length)+(dL (l.drop (i+1))).length=b+(A+(B+s.length)+(dL (l.drop (i+1))).length))]at f;have q:(y=0)=False:=eq_false ah;have I:(y=1)=True:=eq_true d;clear d;refine aB ?_;simp[h,g2,q,I,E,F,G,v,Y,u3,w1,p,H,o,f]
    ·rw[bU,bU,eH,e4];generalize fZ (dL k).length=B at *;generalize(dL k).length=C at *;have p:=bH ((B:Int)+C);have H:=bH ((b:Int)+A+(B+C));have f:=e (b+A+(B+C)) ah;rw[(ah:((b+A+(B+C):Nat):Int)=(b:Int)+A+(B+C)),(ah:b+A+(B+C)+(dL (l.drop (i+1))).length=b+(A+(B+C)+(dL (l.drop (i+1))).length))]at f;have q:(y=0)=False:=eq_false ah;have I:(y=1)=False:=eq_false ah;have q2:(y=2)=True:=eq_true d;clear d;refine aB ?_;simp[h,g2,q,I,q2,E,F,G,v,W,Z,u4,w1,p,H,o,f]
  have J:=loop l.length 0 ah 0 (by rw[dY];omega);rw[dY,mQ]at J;have r:TT.lim 148 [.l (aI l),.zq 0,.zq (aI l).length,.zq 0]=some [.zq 0,.zq ((dL l).length:Int)]:=by rw[g];exact J
  rw[g]at r;clear loop J;refine aW ?_;simp[g,r]
def JC(a b:Q0):dK (a++b)=dK a++dK b:=by simp[dK]
def ang:∀(N:Nat)(l:List aK),dO l<N->fD l->vk l->l.length<=1000000->∀B:Q0,B.length+wL l<=1000000000000->TT.lim 149 [.l (dK B),.l (aI l)]=some [.zq 0,.l (dK (B++dL l))]
 |0,l,h,_,_,_,_,_=>ah
 |N+1,l,hN,x,D,R,B,hB=>by
  have E:=qP l;have loop:∀m i,i+m=l.length->∀b:Q0,b.length+wL (l.drop i)<=1000000000000->TT.lim 150 [.l (dK b),.l (aI l),.zq l.length,.zq i]=some [.zq 0,.l (dK (b++dL (l.drop i)))]:=by
   intro m;induction m with
   |zero=>intro i hi b c;have T:l.drop i=[]:=iK;have h:¬((i:Int)<l.length):=ah;rw[T];simp only[dL,pX];refine aB ?_;simp[h]
   |succ m U=>
    intro i hi b c;obtain⟨t,y,n,s,k,g1,g2,g3,F⟩:=Ib (l:=l) (i:=i) ah;have p:=Ic x _ F;have V:=TV D _ F;simp only[uU]at p;obtain⟨W,X,Y,y2,Z,G⟩:=aaP V;have hs:=YM F;simp only[xq]at hs;rw[g3]at c⊢;simp only[wL,wF]at c;have hk:=adG N k ah p.2 G p.1.2.2.2.2.2.2.2 ah;have aa:=J4 (dO k+1) k ah p.2 G ah;obtain⟨H,I,J⟩:=ail t y ⟨W,X⟩ ⟨Y,ah⟩;have w:=zY (4*t+y).toNat ah;have S:=zY n.toNat ah;have v3:=zY s.length ah;have v4:=zY (dL k).length ah;have z1:=nY (n:=(4*t+y).toNat) ah;have z2:=nY (n:=n.toNat) ah;have z3:=nY (n:=s.length) ah;have z4:=nY (n:=(dL k).length) ah;rw[(ah:(((4*t+y).toNat:Nat):Int)=4*t+y)]at w;rw[(ah:((n.toNat:Nat):Int)=n)]at S;have j:((i+1:Nat):Int)=(i:Int)+1:=ah;have o:=bH ((i:Int)+1);have h:((i:Int)<l.length):=ah;have e:=λa ha=>U (i+1) ah a ha;simp only[j]at e;have u3:=jV ((s.length:Int));have u4:=jV (((dL k).length:Int));have L:∀z:Q0,(dK z).all (λg=>g.gQ 1)=true:=λz=>by simp[dK,GV.gQ]
    have M:∀z:Q0,(dK z).length=z.length:=λz=>by simp[dK]
    simp only[dL,Q7];rcases Z with d|d|d
    ·rw[au d];have f:=e (b++aS (4*t+y).toNat++aS n.toNat) (by simp only[eH];omega);rw[show b++aS (4*t+y).toNat++aS n.toNat++dL (l.drop (i+1))=b++(aS (4*t+y).toNat++aS n.toNat++dL (l.drop (i+1))) by simp,JC,JC]at f;generalize aS (4*t+y).toNat=A,aS n.toNat=C at *;have q:2*(b.length+A.length)<=281474976710656/\b.length+A.length<=281474976710656:=ah;have r:2*(b.length+A.length+C.length)<=281474976710656/\b.length+A.length+C.length<=281474976710656:=ah;have u:(y=0)=True:=eq_true d;clear d;refine aB ?_;simp[-List.append_assoc,h,g2,u,H,I,J,w,S,o,f,L,M,q,r]
    ·rw[bU,au d];have f:=e (b++aS (4*t+y).toNat++aS s.length++s) (by simp only[eH];omega);rw[show b++aS (4*t+y).toNat++aS s.length++s++dL (l.drop (i+1))=b++(aS (4*t+y).toNat++(aS s.length++s)++dL (l.drop (i+1))) by simp,JC,JC,JC]at f;generalize aS (4*t+y).toNat=A,aS s.length=C at *;have q:2*(b.length+A.length)<=281474976710656/\b.length+A.length<=281474976710656:=ah;have r:2*(b.length+A.length+C.length)<=281474976710656/\b.length+A.length+C.length<=281474976710656:=ah;have c3:2*(b.length+A.length+C.length+s.length)<=281474976710656/\b.length+A.length+C.length+s.length<=281474976710656:=ah;have u:(y=0)=False:=eq_false ah;have O:(y=1)=True:=eq_true d;clear d;refine aB ?_;simp[-List.append_assoc,h,g2,u,O,H,I,J,w,v3,u3,o,f,L,M,q,r,c3]
    ·rw[bU,bU];have v:=ang N k ah p.2 G p.1.2.2.2.2.2.2.2 (b++aS (4*t+y).toNat++aS (dL k).length) (by simp only[eH];omega);have f:=e (b++aS (4*t+y).toNat++aS (dL k).length++dL k) (by simp only[eH];omega);rw[show b++aS (4*t+y).toNat++aS (dL k).length++dL k++dL (l.drop (i+1))=b++(aS (4*t+y).toNat++(aS (dL k).length++dL k)++dL (l.drop (i+1))) by simp]at f;rw[JC (b++_),JC b]at v;generalize aS (4*t+y).toNat=A,aS (dL k).length=C at *;have q:2*(b.length+A.length)<=281474976710656/\b.length+A.length<=281474976710656:=ah;have r:2*(b.length+A.length+C.length)<=281474976710656/\b.length+A.length+C.length<=281474976710656:=ah;generalize dL k=K at *;have u:(y=0)=False:=eq_false ah;have O:(y=1)=False:=eq_false ah;have q2:(y=2)=True:=eq_true d;clear d;refine aB ?_;simp[-List.append_assoc,h,g2,u,O,q2,H,I,J,w,hk,v4,u4,v,o,f,L,M,q,r]
  have P:=loop l.length 0 ah B (by rw[dY];omega);rw[dY]at P;have Q:TT.lim 150 [.l (dK B),.l (aI l),.zq l.length,.zq 0]=some [.zq 0,.l (dK (B++dL l))]:=P;clear loop P;generalize dK B=B' at *;refine aB ?_;simp[E,Q]
def aze{α β:Type}{f:α->β}{n o:List β}(h:n.Perm o):∀l:List α,o=l.map f->∃p:List α,p.Perm l/\n=p.map f:=by
 induction h with
 |nil=>intro l e;exact⟨l,.refl _,e⟩
 |cons x _ r=>
  intro l e;cases l with
  |nil=>cases e
  |cons a l=>
   injection e with c d
   obtain⟨p,g,i⟩:=r l d;exact⟨a::p,g.cons a,by rw[iU,<-i,<-c]⟩
 |swap x y l=>
  intro m e;rcases m with _|⟨a,_|⟨b,m⟩⟩
  ·cases e
  ·cases e
  ·simp only[iU,yA]at e;obtain⟨c,d,s⟩:=e;exact⟨b::a::m,List.Perm.swap a b m,by rw[iU,iU,<-c,<-d,<-s]⟩
 |trans _ _ j k=>intro l e;obtain⟨p,g,i⟩:=k l e;obtain⟨q,t,u⟩:=j p i;exact⟨q,t.trans g,u⟩
def Yt:∀(p q:List aK),p.Perm q->p.Pairwise (λa b=>a.tag<=b.tag)->q.Pairwise (λa b=>a.tag<b.tag)->p=q
 |[],q,h,_,_=>(List.nil_perm.1 h).symm
 |a::p,[],h,_,_=>by have:=h.length_eq;simp at this
 |a::p,b::q,h,c,d=>by
  have f:b∈a::p:=h.mem_iff.2 aA;have g:a∈b::q:=h.mem_iff.1 aA;rw[jA]at c d;have i:a.tag<=b.tag:=by
   rcases bI.1 f with e|f
   ·rw[e];exact gq _
   ·exact c.1 b f
  have e:a=b:=by
   rcases bI.1 g with e|g
   ·exact e
   ·have:=d.1 a g;omega
  subst e;rw[Yt p q (List.Perm.cons_inv h) c.2 d.2]
def O0(f:aK):List aK->Nat
 |[]=>0
 |g::l=>if g.tag<f.tag then O0 f l+1 else 0
def Ij(f:aK)(a:List aK):List aK:=a.take (O0 f a)++f::a.drop (O0 f a)
def Ou(a l:List aK):List aK:=l.foldl (λo f=>Ij f o) a
def aiJ(f:aK)(a:List aK):(Ij f a).Perm (f::a):=by unfold Ij;refine List.perm_middle.trans ?_;rw[Ji]
def aiK(f:aK):∀d:List aK,d.Pairwise (λa b=>a.tag<b.tag)->(∀g∈d,g.tag≠f.tag)->(Ij f d).Pairwise (λa b=>a.tag<b.tag)/\(∀g,d[O0 f d]? =some g->g.tag≠f.tag)
 |[],_,_=>by simp[Ij,O0]
 |g::l,e,i=>by
  rw[jA]at e;unfold Ij O0;by_cases h:g.tag<f.tag
  ·obtain⟨j,k⟩:=aiK f l e.2 λx c=>i x (by simp[c]);rw[au h];simp only[BA,Zg,bD,xw];refine⟨List.pairwise_cons.2 ⟨λx c=>?_,j⟩,k⟩;have:=(aiJ f l).mem_iff.1 c;rcases bI.1 this with rfl|c
   ·exact h
   ·exact e.1 x c
  ·rw[aj h];have m:=i g aA;simp only[Uy,dY,aX,l9];refine⟨List.pairwise_cons.2 ⟨λx c=>?_,jA.2 e⟩,λx c=>?_⟩
   ·rcases bI.1 c with rfl|c
    ·omega
    ·have:=e.1 x c;omega
   ·injection c with c
    rw[<-c];exact m
def abw:∀(l c:List aK),c.Pairwise (λa b=>a.tag<b.tag)->((c++l).map aK.tag).Nodup->(Ou c l).Perm (c++l)/\(Ou c l).Pairwise (λa b=>a.tag<b.tag)
 |[],c,d,_=>by simp only[Ou,List.foldl_nil,pX];exact⟨.refl _,d⟩
 |f::l,c,d,h=>by
  have k:∀g∈c,g.tag≠f.tag:=λg m e=>by rw[oK,List.nodup_append]at h;exact h.2.2 g.tag (List.mem_map_of_mem m) f.tag aA e
  have n:=(aiK f c d k).1;have i:(Ij f c++l).Perm (c++f::l):=((aiJ f c).append_right l).trans (List.perm_middle.symm);have j:=abw l (Ij f c) n ((i.map aK.tag).nodup_iff.2 h);exact⟨j.1.trans i,j.2⟩
def ahB(l:List aK):(aI l).all (λg=>g.gQ 5)=true:=by rw[DI,List.all_eq_true];intro g a;obtain⟨f,_,rfl⟩:=rZ.1 a;cases f;simp only[rC];rfl
def Wh(a b:List aK):aI (a++b)=aI a++aI b:=by simp only[DI,oK]
def xW(a b:List aK):List aK:=Ou [] (a++b)
def Sl{a b:List aK}(c:((a++b).map aK.tag).Nodup):(xW a b).Perm (a++b)/\(xW a b).Pairwise (λx y=>x.tag<y.tag):=abw (a++b) [] List.Pairwise.nil c
def ZW(s:Q0):pR (dK s)=some s:=by
 induction s with
 |nil=>rfl
 |cons a s c=>
  have d:(0:Int)<=a.toNat/\((a.toNat:Nat):Int)<256:=by have:=a.toNat_lt;omega
  show(if _ then _ else _)=_
  rw[au d];have e:(s.map λb=>GV.i .u8 b.toNat)=dK s:=rfl;rw[e,c];simp
def aFM(l:List aK)(a:fD l)(b:l.length<=1000000)(d:wL l<=1000000000000)(f:jR 0 0 l=0):TT.lim 146 [.l (aI l)]=some (if 65536<(dL l).length then[.s [],.zq 4]else[.s (dL l),.zq 0]):=by
 have e:=QK (dO l+1) l ah a 0 0 f ah;have g:=V3 l a b;rw[f]at g;have j:=adG (dO l+1) l ah a e b d;have k:=ang (dO l+1) l ah a e b [] (by simpa using d);have m:dK []=[]:=rfl;rw[m,aX]at k;have h:=J4 (dO l+1) l ah a e d;by_cases c:65536<(dL l).length
 ·have i:(65536:Int)<(dL l).length:=ah;rw[au c];refine aW ?_;simp[g,j,c,i]
 ·have i:¬(65536:Int)<(dL l).length:=ah;have n:=ZW (dL l);have o:(dK (dL l)).length=(dL l).length:=by simp[dK]
  have p:(dK (dL l)).length<=281474976710656:=ah;have q:(0:Int)<=(dL l).length/\((dL l).length:Int)<=281474976710656/\((dL l).length:Int)<=1152921504606846976:=ah;rw[aj c];clear a d f e h;generalize dL l=r,aI l=G at *;generalize dK r=s at *;refine aW ?_;simp[g,j,k,c,i,n,p,q,GV.gQ]
def amx(f:aK):LV (rC f)=f.tag:=by cases f;simp only[rC,aK.tag];rfl
def aup(l:List aK):(aI l).all isTagged=true:=by rw[DI,List.all_eq_true];intro g a;obtain⟨f,_,rfl⟩:=rZ.1 a;cases f;simp only[rC];rfl
def aEO{a b:List aK}(h:a.Perm b):dO a=dO b:=by
 induction h with
 |nil=>rfl
 |cons x _ c=>simp only[dO,c]
 |swap x y l=>simp only[dO];omega
 |trans _ _ d e=>rw[d,e]
def am5{a b:List aK}(h:a.Perm b):wL a=wL b:=by
 induction h with
 |nil=>rfl
 |cons x _ c=>simp only[wL,c]
 |swap x y l=>simp only[wL];omega
 |trans _ _ d e=>rw[d,e]
def amw:∀a b:List aK,dO (a++b)=dO a+dO b
 |[],b=>by simp[dO]
 |f::a,b=>by simp only[bD,dO,amw a b];omega
def am3:∀a b:List aK,wL (a++b)=wL a+wL b
 |[],b=>by simp[wL]
 |f::a,b=>by simp only[bD,wL,am3 a b];omega
def Wi:∀{l:List aK},(∀f∈l,uU f)->fD l
 |[],_=>by simp only[fD]
 |f::l,h=>by simp only[fD];exact⟨h f aA,Wi λg a=>h g (by simp[a])⟩
def aus{a b:List aK}(h:a.Perm b)(c:fD b):fD a:=Wi λf d=>Ic c f (h.mem_iff.1 d)
def aur{a b:List aK}(c:fD a)(d:fD b):fD (a++b):=Wi λf e=>(jP.1 e).elim (Ic c f) (Ic d f)
def aD1(l:List aK)(m:(l.map aK.tag).Nodup):yh (aI l)=aI (Ou [] l):=by
 have k:=adH (aI l);have n:=aD0 (aI l);rw[DI]at k;obtain⟨p,d,c⟩:=aze k l rfl;rw[<-DI]at c;have f:=abw l [] List.Pairwise.nil m;rw[aX]at f;have g:p.Pairwise (λa b=>a.tag<=b.tag):=by rw[Ut];intro i j hi o h;have:=n i j (rC p[i]) (rC p[j]) h (by rw[c,jy,bZ hi];rfl) (by rw[c,jy,bZ o];rfl);rwa [amx,amx]at this
 have e:=Yt p (Ou [] l) (d.trans f.1.symm) g f.2;rw[c,e,DI]
def akS(l:List aK)(E:l.length<=10000000)(v:l.Pairwise (λa b=>a.tag<b.tag)):∀m i:Nat,i+1+m=l.length->TT.lim 144 [.l (aI l),.zq ((i:Int)+1)]=some [.zq 1]
 |0,i,hi=>by have h:¬((i:Int)+1<l.length):=ah;have j:=qP l;refine aB ?_;simp[j,h]
 |m+1,i,hi=>by
  have h:((i:Int)+1<l.length):=ah;have j:=qP l;have w:=akS l E v m (i+1) ah;obtain⟨t,y,n,s,k,F,g2,g3,P⟩:=Ib (l:=l) (i:=i) ah;obtain⟨g,x,z,A,D,o,d,G,H⟩:=Ib (l:=l) (i:=i+1) ah;have I:t<g:=by
   have:=Ut.1 v i (i+1) ah ah ah;have J:l[i]=.mk t y n s k:=by have:=bZ (l:=l) (i:=i) ah;rw[F]at this;injection this with this;exact this.symm
   have L:l[i+1]=.mk g x z A D:=by have:=bZ (l:=l) (i:=i+1) ah;rw[o]at this;injection this with this;exact this.symm
   rw[J,L]at this;exact this
  have p:¬g=t:=ah;have c:((i+1:Nat):Int)=(i:Int)+1:=ah;rw[c]at w;have M:=bH ((i:Int)+1+1);have e:=bH ((i:Int)+1-1);have f:(i:Int)+1-1=i:=ah;rw[f]at e;have q:(0:Int)<=(i:Int)+1:=ah;have N:((i:Int)+1).toNat=i+1:=ah;have r:i<l.length:=ah;have O:∀h:i<(aI l).length,(aI l)[i]=uh t y n s k:=λh=>by have:=bZ h;rw[g2]at this;injection this with this;exact this.symm
  have u:∀h:i+1<(aI l).length,(aI l)[i+1]=uh g x z A D:=λh=>by have:=bZ h;rw[d]at this;injection this with this;exact this.symm
  refine aB ?_;simp[O,u,j,h,g2,d,p,M,e,f,q,N,r,w]
def azI(a b:List aK)(l:fD a)(m:fD b)(v:a.length<=1000000)(w:b.length<=1000000)(n:dO a+dO b<=1000000)(o:jR 0 0 a=0)(p:jR 0 0 b=0)(g:((a++b).map aK.tag).Nodup):TT.lim 142 [.l [.l (aI a),.l (aI b)]]=some [.l (aI (xW a b)),.zq 0]:=by
 have q:=V3 a l v;have r:=V3 b m w;rw[o]at q;rw[p]at r;have c:=Wh a b;have s:=qP a;have t:=qP b;have o1:=ahB a;have x:=ahB b;have h:TT.lim 1 [.l (aI a++aI b)]=some [.l (aI (xW a b))]:=by
  refine D7 (Ds:=Ds) (f:=TJ) rfl ?_;have i:(aI a++aI b).length<=281474976710656/\(aI a++aI b).all isTagged=true:=by rw[<-c];exact⟨by rw[qP,eH];omega,aup _⟩
  show(if(aI a++aI b).length<=281474976710656/\(aI a++aI b).all isTagged=true then some [GV.l (yh (aI a++aI b))]else none)=_
  rw[au i,<-c,aD1 _ g];rfl
 obtain⟨j,u⟩:=Sl g;have d:(xW a b).length=a.length+b.length:=by rw[j.length_eq,eH]
 have e:(aI (xW a b)).length=(aI a++aI b).length:=by rw[qP,d,eH,s,t]
 have k:=V4 (xW a b) (by rw[aEO j,amw];exact n);have i:TT.lim 144 [.l (aI (xW a b)),.zq 1]=some [.zq 1]:=by
  rcases UA (xW a b).length with h0|h0
  ·have:xW a b=[]:=kK h0;rw[this];have fn:aI []=[]:=by simp only[aI]
   rw[fn];refine aB ?_;simp
  ·have:=akS (xW a b) ah u ((xW a b).length-1) 0 ah;simpa using this
 have w0:IntKind.i64.wrap 1=1:=aV;have w1:IntKind.i64.wrap 2=2:=aV;have y:2*(aI a).length*64<=281474976710656/\(aI a).length<=281474976710656:=ah;have z:2*((aI a).length+(aI b).length)*64<=281474976710656/\(aI a).length+(aI b).length<=281474976710656:=ah;clear g j u d o p l m n c s t;generalize aI (xW a b)=M,aI a=A,aI b=B at *;have D:TT.lim 143 [.l (A++B),.l [.l A,.l B],.zq 2,.zq 2]=some [.zq 1,.l (A++B)]:=by refine aB ?_;simp
 have E:TT.lim 143 [.l A,.l [.l A,.l B],.zq 2,.zq 1]=some [.zq 1,.l (A++B)]:=by refine aB ?_;simp[-List.all_eq_true,r,w1,x,z,D]
 have F:TT.lim 143 [.l [],.l [.l A,.l B],.zq 2,.zq 0]=some [.zq 1,.l (A++B)]:=by refine aB ?_;simp[-List.all_eq_true,q,w0,o1,y,E]
 rw[eH]at e;refine aW ?_;simp[F,h,e,i,k]
def bK(r:Nat):Nat:=if r%2=1 then(r/2) ^^^ 3988292384 else r/2
def kJ(a b:Nat):bK (a ^^^ b)=bK a ^^^ bK b:=by
 unfold bK;have c:(a ^^^ b)/2=a/2 ^^^ b/2:=Nat.xor_div_two;have d:(a ^^^ b)%2=(a+b)%2:=by have h:=Nat.xor_mod_two_eq_one (a:=a) (b:=b);generalize(a ^^^ b)=z at *;omega
 rw[c,d];have e:∀u v:Nat,(u ^^^ 3988292384) ^^^ (v ^^^ 3988292384)=u ^^^ v:=λu v=>by rw[ru,Nat.xor_comm v,<-ru 3988292384,Nat.xor_self,Nat.zero_xor]
 rcases ae2 a with f|f<;>rcases ae2 b with g|g
 ·rw[bU,bU,bU]
 ·rw[lV,bU,lV,ru]
 ·rw[lV,lV,bU,ru,ru,Nat.xor_comm (b/2)]
 ·rw[bU,lV,lV,e]
def lC(a:Nat):bK (2*a+1)=a ^^^ 3988292384:=by unfold bK;rw[lV,(ah:(2*a+1)/2=a)]
def lu(a:Nat):bK (2*a)=a:=by unfold bK;rw[bU,(ah:2*a/2=a)]
def gX(r:Nat):Nat:=bK (bK (bK (bK r)))
def aEa(q:Nat):gX (16*q)=q ^^^ 0:=by
 have a:bK (16*q)=8*q:=by rw[(ah:16*q=2*(8*q))];exact lu _
 have b:bK (8*q)=4*q:=by rw[(ah:8*q=2*(4*q))];exact lu _
 have c:bK (4*q)=2*q:=by rw[(ah:4*q=2*(2*q))];exact lu _
 have d:bK (2*q)=q:=by exact lu _
 unfold gX;rw[a];rw[b];rw[c];rw[d];rw[Nat.xor_zero]
def aEb(q:Nat):gX (16*q+1)=q ^^^ 498536548:=by
 have a:bK (16*q+1)=(8*q) ^^^ 3988292384:=by rw[(ah:16*q+1=2*(8*q)+1)];exact lC _
 have b:bK (8*q)=4*q:=by rw[(ah:8*q=2*(4*q))];exact lu _
 have c:bK (4*q)=2*q:=by rw[(ah:4*q=2*(2*q))];exact lu _
 have d:bK (2*q)=q:=by exact lu _
 unfold gX;rw[a];rw[kJ,b,show bK 3988292384=1994146192 by decide];rw[kJ,c,show bK 1994146192=997073096 by decide];rw[kJ,d,show bK 997073096=498536548 by decide]
def aEi(q:Nat):gX (16*q+2)=q ^^^ 997073096:=by
 have a:bK (16*q+2)=8*q+1:=by rw[(ah:16*q+2=2*(8*q+1))];exact lu _
 have b:bK (8*q+1)=(4*q) ^^^ 3988292384:=by rw[(ah:8*q+1=2*(4*q)+1)];exact lC _
 have c:bK (4*q)=2*q:=by rw[(ah:4*q=2*(2*q))];exact lu _
 have d:bK (2*q)=q:=by exact lu _
 unfold gX;rw[a];rw[b];rw[kJ,c,show bK 3988292384=1994146192 by decide];rw[kJ,d,show bK 1994146192=997073096 by decide]
def aEj(q:Nat):gX (16*q+3)=q ^^^ 651767980:=by
 have a:bK (16*q+3)=(8*q+1) ^^^ 3988292384:=by rw[(ah:16*q+3=2*(8*q+1)+1)];exact lC _
 have b:bK (8*q+1)=(4*q) ^^^ 3988292384:=by rw[(ah:8*q+1=2*(4*q)+1)];exact lC _
 have c:bK (4*q)=2*q:=by rw[(ah:4*q=2*(2*q))];exact lu _
 have d:bK (2*q)=q:=by exact lu _
 unfold gX;rw[a];rw[kJ,b,show bK 3988292384=1994146192 by decide];rw[ru,show 3988292384 ^^^ 1994146192=2607071920 by decide];rw[kJ,c,show bK 2607071920=1303535960 by decide];rw[kJ,d,show bK 1303535960=651767980 by decide]
def aEk(q:Nat):gX (16*q+4)=q ^^^ 1994146192:=by
 have a:bK (16*q+4)=8*q+2:=by rw[(ah:16*q+4=2*(8*q+2))];exact lu _
 have b:bK (8*q+2)=4*q+1:=by rw[(ah:8*q+2=2*(4*q+1))];exact lu _
 have c:bK (4*q+1)=(2*q) ^^^ 3988292384:=by rw[(ah:4*q+1=2*(2*q)+1)];exact lC _
 have d:bK (2*q)=q:=by exact lu _
 unfold gX;rw[a];rw[b];rw[c];rw[kJ,d,show bK 3988292384=1994146192 by decide]
def aEl(q:Nat):gX (16*q+5)=q ^^^ 1802195444:=by
 have a:bK (16*q+5)=(8*q+2) ^^^ 3988292384:=by rw[(ah:16*q+5=2*(8*q+2)+1)];exact lC _
 have b:bK (8*q+2)=4*q+1:=by rw[(ah:8*q+2=2*(4*q+1))];exact lu _
 have c:bK (4*q+1)=(2*q) ^^^ 3988292384:=by rw[(ah:4*q+1=2*(2*q)+1)];exact lC _
 have d:bK (2*q)=q:=by exact lu _
 unfold gX;rw[a];rw[kJ,b,show bK 3988292384=1994146192 by decide];rw[kJ,c,show bK 1994146192=997073096 by decide];rw[ru,show 3988292384 ^^^ 997073096=3604390888 by decide];rw[kJ,d,show bK 3604390888=1802195444 by decide]
def aEm(q:Nat):gX (16*q+6)=q ^^^ 1303535960:=by
 have a:bK (16*q+6)=8*q+3:=by rw[(ah:16*q+6=2*(8*q+3))];exact lu _
 have b:bK (8*q+3)=(4*q+1) ^^^ 3988292384:=by rw[(ah:8*q+3=2*(4*q+1)+1)];exact lC _
 have c:bK (4*q+1)=(2*q) ^^^ 3988292384:=by rw[(ah:4*q+1=2*(2*q)+1)];exact lC _
 have d:bK (2*q)=q:=by exact lu _
 unfold gX;rw[a];rw[b];rw[kJ,c,show bK 3988292384=1994146192 by decide];rw[ru,show 3988292384 ^^^ 1994146192=2607071920 by decide];rw[kJ,d,show bK 2607071920=1303535960 by decide]
def aEn(q:Nat):gX (16*q+7)=q ^^^ 1342533948:=by
 have a:bK (16*q+7)=(8*q+3) ^^^ 3988292384:=by rw[(ah:16*q+7=2*(8*q+3)+1)];exact lC _
 have b:bK (8*q+3)=(4*q+1) ^^^ 3988292384:=by rw[(ah:8*q+3=2*(4*q+1)+1)];exact lC _
 have c:bK (4*q+1)=(2*q) ^^^ 3988292384:=by rw[(ah:4*q+1=2*(2*q)+1)];exact lC _
 have d:bK (2*q)=q:=by exact lu _
 unfold gX;rw[a];rw[kJ,b,show bK 3988292384=1994146192 by decide];rw[ru,show 3988292384 ^^^ 1994146192=2607071920 by decide];rw[kJ,c,show bK 2607071920=1303535960 by decide];rw[ru,show 3988292384 ^^^ 1303535960=2685067896 by decide];rw[kJ,d,show bK 2685067896=1342533948 by decide]
def aEo(q:Nat):gX (16*q+8)=q ^^^ 3988292384:=by
 have a:bK (16*q+8)=8*q+4:=by rw[(ah:16*q+8=2*(8*q+4))];exact lu _
 have b:bK (8*q+4)=4*q+2:=by rw[(ah:8*q+4=2*(4*q+2))];exact lu _
 have c:bK (4*q+2)=2*q+1:=by rw[(ah:4*q+2=2*(2*q+1))];exact lu _
 have d:bK (2*q+1)=q ^^^ 3988292384:=by exact lC _
 unfold gX;rw[a];rw[b];rw[c];rw[d]
def aEp(q:Nat):gX (16*q+9)=q ^^^ 4027552580:=by
 have a:bK (16*q+9)=(8*q+4) ^^^ 3988292384:=by rw[(ah:16*q+9=2*(8*q+4)+1)];exact lC _
 have b:bK (8*q+4)=4*q+2:=by rw[(ah:8*q+4=2*(4*q+2))];exact lu _
 have c:bK (4*q+2)=2*q+1:=by rw[(ah:4*q+2=2*(2*q+1))];exact lu _
 have d:bK (2*q+1)=q ^^^ 3988292384:=by exact lC _
 unfold gX;rw[a];rw[kJ,b,show bK 3988292384=1994146192 by decide];rw[kJ,c,show bK 1994146192=997073096 by decide];rw[kJ,d,show bK 997073096=498536548 by decide];rw[ru,show 3988292384 ^^^ 498536548=4027552580 by decide]
def aEc(q:Nat):gX (16*q+10)=q ^^^ 3604390888:=by
 have a:bK (16*q+10)=8*q+5:=by rw[(ah:16*q+10=2*(8*q+5))];exact lu _
 have b:bK (8*q+5)=(4*q+2) ^^^ 3988292384:=by rw[(ah:8*q+5=2*(4*q+2)+1)];exact lC _
 have c:bK (4*q+2)=2*q+1:=by rw[(ah:4*q+2=2*(2*q+1))];exact lu _
 have d:bK (2*q+1)=q ^^^ 3988292384:=by exact lC _
 unfold gX;rw[a];rw[b];rw[kJ,c,show bK 3988292384=1994146192 by decide];rw[kJ,d,show bK 1994146192=997073096 by decide];rw[ru,show 3988292384 ^^^ 997073096=3604390888 by decide]
def aEd(q:Nat):gX (16*q+11)=q ^^^ 3412177804:=by
 have a:bK (16*q+11)=(8*q+5) ^^^ 3988292384:=by rw[(ah:16*q+11=2*(8*q+5)+1)];exact lC _
 have b:bK (8*q+5)=(4*q+2) ^^^ 3988292384:=by rw[(ah:8*q+5=2*(4*q+2)+1)];exact lC _
 have c:bK (4*q+2)=2*q+1:=by rw[(ah:4*q+2=2*(2*q+1))];exact lu _
 have d:bK (2*q+1)=q ^^^ 3988292384:=by exact lC _
 unfold gX;rw[a];rw[kJ,b,show bK 3988292384=1994146192 by decide];rw[ru,show 3988292384 ^^^ 1994146192=2607071920 by decide];rw[kJ,c,show bK 2607071920=1303535960 by decide];rw[kJ,d,show bK 1303535960=651767980 by decide];rw[ru,show 3988292384 ^^^ 651767980=3412177804 by decide]
def aEe(q:Nat):gX (16*q+12)=q ^^^ 2607071920:=by
 have a:bK (16*q+12)=8*q+6:=by rw[(ah:16*q+12=2*(8*q+6))];exact lu _
 have b:bK (8*q+6)=4*q+3:=by rw[(ah:8*q+6=2*(4*q+3))];exact lu _
 have c:bK (4*q+3)=(2*q+1) ^^^ 3988292384:=by rw[(ah:4*q+3=2*(2*q+1)+1)];exact lC _
 have d:bK (2*q+1)=q ^^^ 3988292384:=by exact lC _
 unfold gX;rw[a];rw[b];rw[c];rw[kJ,d,show bK 3988292384=1994146192 by decide];rw[ru,show 3988292384 ^^^ 1994146192=2607071920 by decide]
def aEf(q:Nat):gX (16*q+13)=q ^^^ 2262029012:=by
 have a:bK (16*q+13)=(8*q+6) ^^^ 3988292384:=by rw[(ah:16*q+13=2*(8*q+6)+1)];exact lC _
 have b:bK (8*q+6)=4*q+3:=by rw[(ah:8*q+6=2*(4*q+3))];exact lu _
 have c:bK (4*q+3)=(2*q+1) ^^^ 3988292384:=by rw[(ah:4*q+3=2*(2*q+1)+1)];exact lC _
 have d:bK (2*q+1)=q ^^^ 3988292384:=by exact lC _
 unfold gX;rw[a];rw[kJ,b,show bK 3988292384=1994146192 by decide];rw[kJ,c,show bK 1994146192=997073096 by decide];rw[ru,show 3988292384 ^^^ 997073096=3604390888 by decide];rw[kJ,d,show bK 3604390888=1802195444 by decide];rw[ru,show 3988292384 ^^^ 1802195444=2262029012 by decide]
def aEg(q:Nat):gX (16*q+14)=q ^^^ 2685067896:=by
 have a:bK (16*q+14)=8*q+7:=by rw[(ah:16*q+14=2*(8*q+7))];exact lu _
 have b:bK (8*q+7)=(4*q+3) ^^^ 3988292384:=by rw[(ah:8*q+7=2*(4*q+3)+1)];exact lC _
 have c:bK (4*q+3)=(2*q+1) ^^^ 3988292384:=by rw[(ah:4*q+3=2*(2*q+1)+1)];exact lC _
 have d:bK (2*q+1)=q ^^^ 3988292384:=by exact lC _
 unfold gX;rw[a];rw[b];rw[kJ,c,show bK 3988292384=1994146192 by decide];rw[ru,show 3988292384 ^^^ 1994146192=2607071920 by decide];rw[kJ,d,show bK 2607071920=1303535960 by decide];rw[ru,show 3988292384 ^^^ 1303535960=2685067896 by decide]
def aEh(q:Nat):gX (16*q+15)=q ^^^ 3183342108:=by
 have a:bK (16*q+15)=(8*q+7) ^^^ 3988292384:=by rw[(ah:16*q+15=2*(8*q+7)+1)];exact lC _
 have b:bK (8*q+7)=(4*q+3) ^^^ 3988292384:=by rw[(ah:8*q+7=2*(4*q+3)+1)];exact lC _
 have c:bK (4*q+3)=(2*q+1) ^^^ 3988292384:=by rw[(ah:4*q+3=2*(2*q+1)+1)];exact lC _
 have d:bK (2*q+1)=q ^^^ 3988292384:=by exact lC _
 unfold gX;rw[a];rw[kJ,b,show bK 3988292384=1994146192 by decide];rw[ru,show 3988292384 ^^^ 1994146192=2607071920 by decide];rw[kJ,c,show bK 2607071920=1303535960 by decide];rw[ru,show 3988292384 ^^^ 1303535960=2685067896 by decide];rw[kJ,d,show bK 2685067896=1342533948 by decide];rw[ru,show 3988292384 ^^^ 1342533948=3183342108 by decide]
def xU(b:aQ)(s:dU):Option aK:=match placeOf s.name with
 |some p=>if(bg b p).1=0/\(bg b p).2=[]then none else some (.mk s.tag (dZ p) (bg b p).1 (bg b p).2 [])
 |none=>none
def lQ(b:aQ)(l:List dU):List aK:=l.filterMap (xU b)
def Fz(b:aQ)(s:dU)(l:List dU):lQ b (s::l)=(match xU b s with|some f=>[f]|none=>[])++lQ b l:=by unfold lQ;rw[List.filterMap_cons];cases xU b s<;>rfl
def akp{b:aQ}{v:List aK}(G:tV b v)(c:List dU)(J:c.length<=1000)(o:∀s∈c,placeOf s.name≠none/\s.use=ad8 s.name):∀(m i:Nat)(a:List aK),i+m=c.length->a.length+m<=2000->
 TT.lim 135 ([.l (aI a),.l (c.map gJ),.zq c.length,.zq i]++(jh b (aI v)).cells)=some [.zq 0,.l (aI (a++lQ b (c.drop i)))]
 |0,i,a,hi,L=>by have h:¬((i:Int)<c.length):=ah;have e:c.drop i=[]:=iK;rw[e];have:lQ b []=[]:=rfl;rw[this,pX,fE];simp only[bD,aX];refine aB ?_;simp[h]
 |m+1,i,a,hi,L=>by
  have g:i<c.length:=ah;have h:((i:Int)<c.length):=ah;obtain⟨p,y⟩:∃p,placeOf c[i].name=some p:=by
   cases e:placeOf c[i].name with
   |some p=>exact⟨p,rfl⟩
   |none=>exact absurd e (o _ (iT g)).1
  have w:=aye G y;have q:c.drop i=c[i]::c.drop (i+1):=iR g;have j:(c.map gJ)[i]? =some (gJ c[i]):=by rw[jy,bZ g];rfl
  have d:((i+1:Nat):Int)=(i:Int)+1:=ah;have z:=bH ((i:Int)+1);rw[q,Fz];have H:xU b c[i]=if(bg b p).1=0/\(bg b p).2=[]then none else some (.mk c[i].tag (dZ p) (bg b p).1 (bg b p).2 []):=by unfold xU;rw[y]
  rw[H];have f:=akp G c J o m (i+1);generalize c[i]=s at *;clear H q y;have I:=qP a;have fn:aI []=[]:=by simp only[aI]
  have k:(uh s.tag (dZ p) (bg b p).1 (bg b p).2 []).gQ 5=true:=rfl;have l:GV.g [.zu s.tag,.zq (dZ p),.zu (bg b p).1,.s (bg b p).2,.l []]=uh s.tag (dZ p) (bg b p).1 (bg b p).2 []:=by unfold uh;rw[fn]
  have D:2*((aI a).length+1)*64<=281474976710656/\(aI a).length+1<=281474976710656:=ah;by_cases x:(bg b p).1=0/\(bg b p).2=[]
  ·rw[au x];have f:=f a ah ah;rw[fE,d]at f;rw[fE];simp only[bD,aX]at f⊢;clear k l D I;obtain⟨M,N⟩:=x;rw[M,N]at w;generalize aI a=A,aI v=r,c.map gJ=O,dZ p=P at *;refine aB ?_;simp[h,j,lT,w,z,f]
  ·rw[aj x];have f:=f (a++[.mk s.tag (dZ p) (bg b p).1 (bg b p).2 []]) ah (by rw[eH,GI];omega);have u:aI (a++[.mk s.tag (dZ p) (bg b p).1 (bg b p).2 []])=aI a++[uh s.tag (dZ p) (bg b p).1 (bg b p).2 []]:=by rw[Wh];simp only[aI,rC];rfl
   rw[fE,d,u,List.append_assoc]at f;rw[fE];simp only[bD,aX]at f⊢;generalize Q:aI (a++.mk s.tag (dZ p) (bg b p).1 (bg b p).2 []::lQ b (c.drop (i+1)))=R at *;clear Q u I;generalize uh s.tag (dZ p) (bg b p).1 (bg b p).2 []=E,aI a=A,aI v=r,c.map gJ=O at *;generalize dZ p=P,bg b p=S at *;obtain⟨n,t⟩:=S;simp only at *;by_cases F:n=0
   ·have T:¬t=[]:=λe=>x ⟨F,e⟩;subst F;refine aB ?_;simp[h,j,lT,w,T,l,k,D,z,f]
   ·refine aB ?_;simp[h,j,lT,w,F,l,k,D,z,f]
def QJ:∀(l:List aK)(w:Nat)(a:Int),jR w a l=0->(∀f∈l,f.tag≠0/\f.tag<=4294967296/\AA w f=0/\a<f.tag)/\l.Pairwise (λx y=>x.tag<y.tag)
 |[],w,a,_=>⟨aA,List.Pairwise.nil⟩
 |f::l,w,a,h=>by
  unfold jR at h;by_cases h1:f.tag=0
  ·rw[au h1]at h;exact absurd h aV
  rw[aj h1]at h;by_cases d:4294967296<f.tag
  ·rw[au d]at h;exact absurd h aV
  rw[aj d]at h;by_cases i:f.tag<=a
  ·rw[au i]at h;exact absurd h aV
  rw[aj i]at h;by_cases c:AA w f=0;rotate_left
  ·rw[au c]at h;exact absurd h c
  rw[aj (λe=>e c)]at h;obtain⟨j,k⟩:=QJ l w f.tag h;refine⟨λg b=>?_,jA.2 ⟨λg b=>(j g b).2.2.2,k⟩⟩;rcases bI.1 b with rfl|b
  ·exact⟨h1,ah,c,ah⟩
  ·obtain⟨m,n,o,p⟩:=j g b;exact⟨m,n,o,ah⟩
def aag:∀(l:List aK)(w:Nat)(a:Int),(∀f∈l,f.tag≠0/\f.tag<=4294967296/\AA w f=0/\a<f.tag)->l.Pairwise (λx y=>x.tag<y.tag)->jR w a l=0
 |[],w,a,_,_=>by unfold jR;rfl
 |f::l,w,a,h,b=>by obtain⟨q1,i,d,j⟩:=h f aA;rw[jA]at b;unfold jR;rw[aj q1,bU,bU,aj (λe=>e d)];refine aag l w f.tag (λg c=>?_) b.2;obtain⟨r1,r2,r3,k⟩:=h g (by simp[c]);exact⟨r1,r2,r3,b.1 g c⟩
def aD5(k:Int):(Ac k).Pairwise (λs t=>s.tag<t.tag)/\∀s∈Ac k,1<=s.tag/\s.tag<=5:=by
 unfold Ac;repeat' split
 all_goals first|(unfold sp1;decide)|(unfold sp2;decide)|(unfold F9;decide)|(unfold Gf;decide)|(unfold Gg;decide)|(unfold Gh;decide)|(unfold Gi;decide)|(unfold Gj;decide)|exact⟨List.Pairwise.nil,λs a=>by cases a⟩
def KC(k v:Int):(aT k v).Pairwise (λs t=>s.tag<t.tag)/\∀s∈aT k v,1<=s.tag/\s.tag<=5:=by obtain⟨a,b⟩:=aD5 k;exact⟨a.sublist aeO,λs c=>b s (C9.1 c).1⟩
def RN{b:aQ}{s:dU}{f:aK}(h:xU b s=some f):∃p,placeOf s.name=some p/\f=.mk s.tag (dZ p) (bg b p).1 (bg b p).2 []/\¬((bg b p).1=0/\(bg b p).2=[]):=by
 unfold xU at h;cases c:placeOf s.name with
 |none=>rw[c]at h;cases h
 |some p=>
  rw[c]at h;simp only at h;by_cases a:(bg b p).1=0/\(bg b p).2=[]
  ·rw[au a]at h;cases h
  ·rw[aj a]at h;injection h with h
   exact⟨p,rfl,h.symm,a⟩
def RP{b:aQ}{l:List dU}{f:aK}(h:f∈lQ b l):∃s∈l,∃p,placeOf s.name=some p/\f=.mk s.tag (dZ p) (bg b p).1 (bg b p).2 []/\¬((bg b p).1=0/\(bg b p).2=[]):=by unfold lQ at h;obtain⟨s,a,c⟩:=List.mem_filterMap.1 h;exact⟨s,a,RN c⟩
def Xh(b:aQ):∀(l:List dU),l.Pairwise (λs t=>s.tag<t.tag)->(lQ b l).Pairwise (λx y=>x.tag<y.tag)
 |[],_=>List.Pairwise.nil
 |s::l,h=>by
  rw[jA]at h;rw[Fz];have c:=Xh b l h.2;cases d:xU b s with
  |none=>exact c
  |some f=>obtain⟨p,-,rfl,-⟩:=RN d;refine jA.2 ⟨λg e=>?_,c⟩;obtain⟨i,a,j,-,rfl,-⟩:=RP e;exact h.1 i a
def aFu(b:aQ)(p:Pl):(dZ p=0/\(bg b p).2=[])\/(dZ p=1/\(bg b p).1=0):=by cases p<;>simp[dZ,bg]
def ai1(b:aQ)(k v:Int):jR 0 0 (lQ b (aT k v))=0:=by
 obtain⟨d,e⟩:=KC k v;refine aag _ 0 0 (λf g=>?_) (Xh b _ d);obtain⟨s,h,p,-,rfl,-⟩:=RP g;have:=e s h;refine⟨by show s.tag≠0;omega,by show s.tag<=_;omega,?_,by show 0<s.tag;omega⟩;unfold AA;rcases aFu b p with⟨a,c⟩|⟨a,c⟩
 ·rw[a,c];simp
 ·rw[a,c];simp
def Short(b:aQ):Prop:=b.name.length<=600/\b.region.length<=600/\b.note.length<=600
def amV{b:aQ}{a:List aK}(h:tV b a)(c:Short b)(p:Pl):(0<=(bg b p).1/\(bg b p).1<18446744073709551616)/\(bg b p).2.length<=100000000:=by
 have q:=h.body;obtain⟨w1,e,f⟩:=c;cases p with
 |rem=>have g:=q.remaining;exact⟨by simp only[bg];unfold zz;split<;>omega,by simp[bg]⟩
 |allow=>refine⟨?_,by simp[bg]⟩;simp only[bg];split<;>omega
 |name=>exact⟨by simp[bg],by simp only[bg];omega⟩
 |region=>exact⟨by simp[bg],by simp only[bg];omega⟩
 |note=>exact⟨by simp[bg],by simp only[bg];omega⟩
 |d=>
  refine⟨by simp[bg],?_⟩;simp only[bg];have:=RI h.d;split
  ·simp
  ·omega
 |t=>
  refine⟨by simp[bg],?_⟩;simp only[bg];have:=akl b.t h.t;split
  ·simp
  ·unfold AZ;split
   ·simp
   ·simp only;omega
 |num k=>refine⟨?_,by simp[bg]⟩;simp only[bg];unfold qV;split<;>first|exact q.id|exact q.min|exact q.max|exact q.chosen|exact q.flags|exact q.cost|exact q.priority|exact q.deadline|exact q.retry|exact q.epoch|exact q.base|exact q.digest|exact q.lag|exact q.code|exact q.want
def aiY{b:aQ}{c:List aK}(h:tV b c)(d:Short b)(k v:Int):fD (lQ b (aT k v)):=Wi λf e=>by
 obtain⟨s,g,p,-,rfl,-⟩:=RP e;have i:=(KC k v).2 s g;have a:=amV h d p;have j:0<=dZ p/\dZ p<=1:=by cases p<;>simp[dZ]
 simp only[uU,fD];refine⟨⟨?_,?_,?_,?_,a.1.1,a.1.2,a.2,?_⟩,trivial⟩;all_goals first|omega|simp
def aiX(b:aQ)(k v:Int):(lQ b (aT k v)).length<=8:=kW (List.length_filterMap_le _ _) (FB k v)
def aiZ(b:aQ):∀l:List dU,dO (lQ b l)<=2*l.length
 |[]=>by simp[lQ,dO]
 |s::l=>by
  rw[Fz];have c:=aiZ b l;cases a:xU b s with
  |none=>simp only[aX,iD];omega
  |some f=>obtain⟨p,-,rfl,-⟩:=RN a;simp only[bD,aX,dO,xq,iD];omega
def ai0{b:aQ}{c:List aK}(h:tV b c)(a:Short b):∀l:List dU,wL (lQ b l)<=100000040*l.length
 |[]=>by simp[lQ,wL]
 |s::l=>by
  rw[Fz];have e:=ai0 h a l;cases d:xU b s with
  |none=>simp only[aX,iD];omega
  |some f=>obtain⟨p,-,rfl,-⟩:=RN d;have g:=(amV h a p).2;simp only[bD,aX,wL,wF,iD];omega
structure xH(b:aQ)(fl:List aK):Prop where
 msg:tV b fl
 short:Short b
 sz:dO fl<=900000
 w:wL fl<=2000000000
def Ht{b:aQ}{a:List aK}{v:Int}(h:fC b a v=0):1<=v/\v<=3/\aT b.kind v≠[]/\jR 0 0 a=0/\∀f∈a,hasTag (aT b.kind v) f.tag=false:=by
 unfold fC at h;by_cases j:v<1
 ·rw[au j]at h;exact absurd h aV
 rw[aj j]at h;by_cases k:3<v
 ·rw[au k]at h;exact absurd h aV
 rw[aj k]at h;by_cases d:aT b.kind v=[]
 ·rw[au d]at h;exact absurd h aV
 rw[aj d]at h;by_cases l:iF.all (λn=>rF (aT b.kind v) n ||oV b n)=false
 ·rw[au l]at h;exact absurd h aV
 rw[aj l]at h;by_cases g:kP b (aT b.kind v)≠0
 ·rw[au g]at h;exact absurd h g
 rw[aj g]at h;by_cases i:EJ b≠0
 ·rw[au i]at h;exact absurd h i
 rw[aj i]at h;unfold O7 at h;by_cases c:jR 0 0 a≠0
 ·rw[au c]at h;exact absurd h c
 rw[aj c]at h;by_cases m:a.any (λf=>hasTag (aT b.kind v) f.tag)=true
 ·rw[au m]at h;exact absurd h aV
 refine⟨ah,ah,d,by simpa using c,λf o=>?_⟩;cases e:hasTag (aT b.kind v) f.tag with
 |false=>rfl
 |true=>exact absurd (List.any_eq_true.2 ⟨f,o,e⟩) m
def Qn{b:aQ}{a:List aK}{v:Int}(h:fC b a v=0):((lQ b (aT b.kind v)++a).map aK.tag).Nodup:=by
 obtain⟨-,-,-,d,i⟩:=Ht h;have j:=Xh b _ (KC b.kind v).1;have k:=(QJ a 0 0 d).2;rw[oK,List.nodup_append];have c:∀l:List aK,l.Pairwise (λx y=>x.tag<y.tag)->(l.map aK.tag).Nodup:=λl m=>by unfold List.Nodup;rw[List.pairwise_map];exact m.imp λh e=>ah
 refine⟨c _ j,c _ k,λx n y o e=>?_⟩;obtain⟨f,q,rfl⟩:=rZ.1 n;obtain⟨g,r,rfl⟩:=rZ.1 o;obtain⟨s,t,p,-,rfl,-⟩:=RP q;have:=i g r;unfold hasTag at this;have u:(aT b.kind v).any (λs=>decide (g.tag=s.tag))=true:=List.any_eq_true.2 ⟨s,t,JU (show g.tag=s.tag from e.symm)⟩;rw[u]at this;cases this
def wH(b:aQ)(a:List aK)(v:Int):List aK:=xW (lQ b (aT b.kind v)) a
def V6(b:aQ)(a:List aK)(v:Int):List aK×Int:=if fC b a v=0 then(wH b a v,0)else([],fC b a v)
structure Y8(l:List aK):Prop where
 ok:fD l
 len:l.length<=1000000
 w:wL l<=1000000000000
 chk:jR 0 0 l=0
def ZI{b:aQ}{c:List aK}{v:Int}(a:xH b c)(h:fC b c v=0):Y8 (wH b c v):=by
 obtain⟨-,-,-,g,k⟩:=Ht h;obtain⟨e,i⟩:=Sl (Qn h);have m:c.length<=900000:=by
  have:∀l:List aK,l.length<=dO l:=λl=>by
   induction l with
   |nil=>simp[dO]
   |cons f l n=>simp only[iD,dO];omega
  have:=this c;have:=a.sz;omega
 have o:=aiX b b.kind v;have p:=ai0 a.msg a.short (aT b.kind v);have j:=FB b.kind v;have q:=a.w;refine⟨aus e (aur (aiY a.msg a.short _ _) a.msg.f8),?_,?_,?_⟩
 ·unfold wH;rw[e.length_eq,eH];omega
 ·unfold wH;rw[am5 e,am3];have:100000040*(aT b.kind v).length<=100000040*8:=UC _ j;omega
 ·refine aag _ 0 0 (λf d=>?_) i;rcases jP.1 (e.mem_iff.1 d)with d|d
  ·exact(QJ _ 0 0 (ai1 b b.kind v)).1 f d
  ·exact(QJ _ 0 0 g).1 f d
def aiU{k v:Int}(h:aT k v≠[]):1<=k/\k<=8:=by
 by_cases c:1<=k/\k<=8
 ·exact c
 ·exfalso;apply h;unfold aT Ac;rw[bU,bU,bU,bU,bU,bU,bU,bU];rfl
def azf{b:aQ}{a:List aK}(d:xH b a)(v:Int):TT.lim 90 [jh b (aI a),.zq v]=some [.l (aI (V6 b a v).1),.zq (V6 b a v).2]:=by
 have f:=abX b a v d.msg.body d.msg.t.few d.msg.f8 d.msg.len;unfold V6;by_cases c:fC b a v=0;rotate_left
 ·rw[aj c];have fn:aI []=[]:=by simp only[aI]
  rw[fn];generalize aI a=r,fC b a v=p at *;refine aW ?_;simp[lT,f,c]
 rw[au c];rw[c]at f;obtain⟨g,h,e,l,-⟩:=Ht c;have m:=Xf b.kind v g h (by have:=mt (ai2 b.kind v g h).2 e;omega)
 have i:=akp d.msg (aT b.kind v) (by have:=FB b.kind v;omega) (awS b.kind v) (aT b.kind v).length 0 [] ah (by have:=FB b.kind v;simp;omega);have fn:aI []=[]:=by simp only[aI]
 rw[dY,aX,fE,fn]at i;simp only[bD,aX,tJ]at i;have j:=aiZ b (aT b.kind v);have n:=FB b.kind v;have o:=azI _ a (aiY d.msg d.short b.kind v) d.msg.f8 (by have:=aiX b b.kind v;omega) d.msg.len (by have:=d.sz;omega) (ai1 b b.kind v) l (Qn c);have k:(((aT b.kind v).map gJ).length:Int)=((aT b.kind v).length:Int):=by rw[gB]
 unfold wH;generalize aI (xW (lQ b (aT b.kind v)) a)=M,aI (lQ b (aT b.kind v))=q,(aT b.kind v).map gJ=s,((aT b.kind v).length:Int)=L,aI a=r at *;clear j n e l c d g h;refine aW ?_;simp[lT,f,m,k,i,o]
def bytesV(b:aQ)(a:List aK)(v:Int):Q0:=aS b.kind.toNat++dL (wH b a v)
def qO(b:aQ)(a:List aK)(v:Int):Q0×Int:=if fC b a v=0 then(if 65536<(bytesV b a v).length then([],4)else(bytesV b a v,0))else([],fC b a v)
def azd{b:aQ}{a:List aK}(j:xH b a)(v:Int):TT.lim 89 [jh b (aI a),.zq v]=some [.s (qO b a v).1,.zq (qO b a v).2]:=by
 have d:=azf j v;unfold V6 at d;unfold qO;by_cases c:fC b a v=0;rotate_left
 ·rw[aj c]at d⊢;generalize aI a=r,fC b a v=t at *;refine aW ?_;simp[lT,d,c]
 rw[au c]at d⊢;have f:=ZI j c;have g:=aFM (wH b a v) f.ok f.len f.w f.chk;obtain⟨-,-,h,-,-⟩:=Ht c;obtain⟨u,w⟩:=aiU h;have k:=zY b.kind.toNat ah;have s:=nY (n:=b.kind.toNat) ah;rw[(ah:((b.kind.toNat:Nat):Int)=b.kind)]at k;have l:=jV (b.kind);unfold bytesV;rw[eH];clear f c j h;generalize wH b a v=m,aS b.kind.toNat=V,aI a=r at *;generalize aI m=G,dL m=i at *;by_cases o:65536<i.length
 ·rw[au o]at g;rw[lV];refine aW ?_;simp[lT,d,g]
 ·rw[aj o]at g;have p:(V.length:Int)+i.length<=9223372036854775807:=ah;by_cases q:65536<V.length+i.length
  ·have e:(65536:Int)<V.length+i.length:=ah;rw[au q];refine aW ?_;simp[lT,d,g,l,k,e,p]
  ·have e:¬(65536:Int)<V.length+i.length:=ah;rw[aj q];refine aW ?_;simp[lT,d,g,l,k,e,p]
def wrap32{n:Int}(h0:0<=n)(h1:n<4294967296):IntKind.u32.wrap n=n:=by
 have a:∀y:Int,IntKind.u32.wrap y=y%4294967296:=λy=>by simp[IntKind.wrap,IntKind.signed,IntKind.bits]
 rw[a];omega
def ofInt32(a:Nat)(b:a<4294967296):(BitVec.ofInt 32 (a:Int)).toNat=a:=by rw[wo];omega
def Y6{a b:Nat}(c:a<4294967296)(d:b<4294967296):a ^^^ b<4294967296:=Nat.xor_lt_two_pow (n:=32) c d
def x32(a b:Nat)(c:a<4294967296)(d:b<4294967296):dw .xor .u32 (a:Int) (b:Int)=some (.i .u32 ((a ^^^ b:Nat):Int)):=by
 show some (GV.i IntKind.u32 (IntKind.u32.wrap ((BitVec.ofInt 32 (a:Int) ^^^ BitVec.ofInt 32 (b:Int)).toNat:Int)))=_
 have e:=Y6 c d;rw[BitVec.toNat_xor,ofInt32 a c,ofInt32 b d,wrap32 ah ah]
def anX(a:Nat)(b:a<4294967296):dw .and .u32 (a:Int) 15=some (.i .u32 ((a%16:Nat):Int)):=by
 have h:=ofInt32 15 aV;show some (GV.i IntKind.u32 (IntKind.u32.wrap ((BitVec.ofInt 32 (a:Int) &&& BitVec.ofInt 32 15).toNat:Int)))=_
 have e:a &&& 15=a%16:=ae0 a 4;rw[Zb,ofInt32 a b,show(BitVec.ofInt 32 15).toNat=15 from h,e,wrap32 ah ah]
def al5(a:Nat):kT .shr .u32 (a:Int) 4=some (.i .u32 ((a:Int)/16)):=by
 show some (GV.i IntKind.u32 ((a:Int).fdiv (2^4)))=_
 rw[Gy _ aV];rfl
def Yx{r:Nat}(h:r<4294967296):bK r<4294967296:=by
 unfold bK;split
 ·exact Y6 ah aV
 ·omega
def adJ{r:Nat}(h:r<4294967296):gX r<4294967296:=Yx (Yx (Yx (Yx h)))
def nib(y:Nat)(f:y<4294967296):(dw .and .u32 (y:Int) 15=some (.i .u32 0)/\dw .xor .u32 ((y:Int)/16) 0=some (.i .u32 (gX y:Nat)))\/(dw .and .u32 (y:Int) 15=some (.i .u32 1)/\dw .xor .u32 ((y:Int)/16) 498536548=some (.i .u32 (gX y:Nat)))\/(dw .and .u32 (y:Int) 15=some (.i .u32 2)/\dw .xor .u32 ((y:Int)/16) 997073096=some (.i .u32 (gX y:Nat)))\/(dw .and .u32 (y:Int) 15=some (.i .u32 3)/\dw .xor .u32 ((y:Int)/16) 651767980=some (.i .u32 (gX y:Nat)))\/(dw .and .u32 (y:Int) 15=some (.i .u32 4)/\dw .xor .u32 ((y:Int)/16) 1994146192=some (.i .u32 (gX y:Nat)))\/(dw .and .u32 (y:Int) 15=some (.i .u32 5)/\dw .xor .u32 ((y:Int)/16) 1802195444=some (.i .u32 (gX y:Nat)))\/(dw .and .u32 (y:Int) 15=some (.i .u32 6)/\dw .xor .u32 ((y:Int)/16) 1303535960=some (.i .u32 (gX y:Nat)))\/(dw .and .u32 (y:Int) 15=some (.i .u32 7)/\dw .xor .u32 ((y:Int)/16) 1342533948=some (.i .u32 (gX y:Nat)))\/(dw .and .u32 (y:Int) 15=some (.i .u32 8)/\dw .xor .u32 ((y:Int)/16) 3988292384=some (.i .u32 (gX y:Nat)))\/(dw .and .u32 (y:Int) 15=some (.i .u32 9)/\dw .xor .u32 ((y:Int)/16) 4027552580=some (.i .u32 (gX y:Nat)))\/(dw .and .u32 (y:Int) 15=some (.i .u32 10)/\dw .xor .u32 ((y:Int)/16) 3604390888=some (.i .u32 (gX y:Nat)))\/(dw .and .u32 (y:Int) 15=some (.i .u32 11)/\dw .xor .u32 ((y:Int)/16) 3412177804=some (.i .u32 (gX y:Nat)))\/(dw .and .u32 (y:Int) 15=some (.i .u32 12)/\dw .xor .u32 ((y:Int)/16) 2607071920=some (.i .u32 (gX y:Nat)))\/(dw .and .u32 (y:Int) 15=some (.i .u32 13)/\dw .xor .u32 ((y:Int)/16) 2262029012=some (.i .u32 (gX y:Nat)))\/(dw .and .u32 (y:Int) 15=some (.i .u32 14)/\dw .xor .u32 ((y:Int)/16) 2685067896=some (.i .u32 (gX y:Nat)))\/(dw .and .u32 (y:Int) 15=some (.i .u32 15)/\dw .xor .u32 ((y:Int)/16) 3183342108=some (.i .u32 (gX y:Nat))):=by
 have b:=anX y f;have c:∀T:Nat,T<4294967296->dw .xor .u32 ((y/16:Nat):Int) (T:Int)=some (.i .u32 ((y/16 ^^^ T:Nat):Int)):=λT g=>x32 _ T ah g;have d:y%16=0\/y%16=1\/y%16=2\/y%16=3\/y%16=4\/y%16=5\/y%16=6\/y%16=7\/y%16=8\/y%16=9\/y%16=10\/y%16=11\/y%16=12\/y%16=13\/y%16=14\/y%16=15:=ah;rcases d with h|h|h|h|h|h|h|h|h|h|h|h|h|h|h|h
 ·refine .inl ⟨?_,?_⟩
  ·rw[b,h];rfl
  ·have e:=aEa (y/16);rw[(ah:16*(y/16)=y)]at e;rw[e];have a:((y/16:Nat):Int)=(y:Int)/16:=ah;rw[<-a];exact c 0 aV
 ·refine .inr (.inl ⟨?_,?_⟩)
  ·rw[b,h];rfl
  ·have e:=aEb (y/16);rw[(ah:16*(y/16)+1=y)]at e;rw[e];have a:((y/16:Nat):Int)=(y:Int)/16:=ah;rw[<-a];exact c 498536548 aV
 ·refine .inr (.inr (.inl ⟨?_,?_⟩))
  ·rw[b,h];rfl
  ·have e:=aEi (y/16);rw[(ah:16*(y/16)+2=y)]at e;rw[e];have a:((y/16:Nat):Int)=(y:Int)/16:=ah;rw[<-a];exact c 997073096 aV
 ·refine .inr (.inr (.inr (.inl ⟨?_,?_⟩)))
  ·rw[b,h];rfl
  ·have e:=aEj (y/16);rw[(ah:16*(y/16)+3=y)]at e;rw[e];have a:((y/16:Nat):Int)=(y:Int)/16:=ah;rw[<-a];exact c 651767980 aV
 ·refine .inr (.inr (.inr (.inr (.inl ⟨?_,?_⟩))))
  ·rw[b,h];rfl
  ·have e:=aEk (y/16);rw[(ah:16*(y/16)+4=y)]at e;rw[e];have a:((y/16:Nat):Int)=(y:Int)/16:=ah;rw[<-a];exact c 1994146192 aV
 ·refine .inr (.inr (.inr (.inr (.inr (.inl ⟨?_,?_⟩)))))
  ·rw[b,h];rfl
  ·have e:=aEl (y/16);rw[(ah:16*(y/16)+5=y)]at e;rw[e];have a:((y/16:Nat):Int)=(y:Int)/16:=ah;rw[<-a];exact c 1802195444 aV
 ·refine .inr (.inr (.inr (.inr (.inr (.inr (.inl ⟨?_,?_⟩))))))
  ·rw[b,h];rfl
  ·have e:=aEm (y/16);rw[(ah:16*(y/16)+6=y)]at e;rw[e];have a:((y/16:Nat):Int)=(y:Int)/16:=ah;rw[<-a];exact c 1303535960 aV
 ·refine .inr (.inr (.inr (.inr (.inr (.inr (.inr (.inl ⟨?_,?_⟩)))))))
  ·rw[b,h];rfl
  ·have e:=aEn (y/16);rw[(ah:16*(y/16)+7=y)]at e;rw[e];have a:((y/16:Nat):Int)=(y:Int)/16:=ah;rw[<-a];exact c 1342533948 aV
 ·refine .inr (.inr (.inr (.inr (.inr (.inr (.inr (.inr (.inl ⟨?_,?_⟩))))))))
  ·rw[b,h];rfl
  ·have e:=aEo (y/16);rw[(ah:16*(y/16)+8=y)]at e;rw[e];have a:((y/16:Nat):Int)=(y:Int)/16:=ah;rw[<-a];exact c 3988292384 aV
 ·refine .inr (.inr (.inr (.inr (.inr (.inr (.inr (.inr (.inr (.inl ⟨?_,?_⟩)))))))))
  ·rw[b,h];rfl
  ·have e:=aEp (y/16);rw[(ah:16*(y/16)+9=y)]at e;rw[e];have a:((y/16:Nat):Int)=(y:Int)/16:=ah;rw[<-a];exact c 4027552580 aV
 ·refine .inr (.inr (.inr (.inr (.inr (.inr (.inr (.inr (.inr (.inr (.inl ⟨?_,?_⟩))))))))))
  ·rw[b,h];rfl
  ·have e:=aEc (y/16);rw[(ah:16*(y/16)+10=y)]at e;rw[e];have a:((y/16:Nat):Int)=(y:Int)/16:=ah;rw[<-a];exact c 3604390888 aV
 ·refine .inr (.inr (.inr (.inr (.inr (.inr (.inr (.inr (.inr (.inr (.inr (.inl ⟨?_,?_⟩)))))))))))
  ·rw[b,h];rfl
  ·have e:=aEd (y/16);rw[(ah:16*(y/16)+11=y)]at e;rw[e];have a:((y/16:Nat):Int)=(y:Int)/16:=ah;rw[<-a];exact c 3412177804 aV
 ·refine .inr (.inr (.inr (.inr (.inr (.inr (.inr (.inr (.inr (.inr (.inr (.inr (.inl ⟨?_,?_⟩))))))))))))
  ·rw[b,h];rfl
  ·have e:=aEe (y/16);rw[(ah:16*(y/16)+12=y)]at e;rw[e];have a:((y/16:Nat):Int)=(y:Int)/16:=ah;rw[<-a];exact c 2607071920 aV
 ·refine .inr (.inr (.inr (.inr (.inr (.inr (.inr (.inr (.inr (.inr (.inr (.inr (.inr (.inl ⟨?_,?_⟩)))))))))))))
  ·rw[b,h];rfl
  ·have e:=aEf (y/16);rw[(ah:16*(y/16)+13=y)]at e;rw[e];have a:((y/16:Nat):Int)=(y:Int)/16:=ah;rw[<-a];exact c 2262029012 aV
 ·refine .inr (.inr (.inr (.inr (.inr (.inr (.inr (.inr (.inr (.inr (.inr (.inr (.inr (.inr (.inl ⟨?_,?_⟩))))))))))))))
  ·rw[b,h];rfl
  ·have e:=aEg (y/16);rw[(ah:16*(y/16)+14=y)]at e;rw[e];have a:((y/16:Nat):Int)=(y:Int)/16:=ah;rw[<-a];exact c 2685067896 aV
 ·refine .inr (.inr (.inr (.inr (.inr (.inr (.inr (.inr (.inr (.inr (.inr (.inr (.inr (.inr (.inr (⟨?_,?_⟩)))))))))))))))
  ·rw[b,h];rfl
  ·have e:=aEh (y/16);rw[(ah:16*(y/16)+15=y)]at e;rw[e];have a:((y/16:Nat):Int)=(y:Int)/16:=ah;rw[<-a];exact c 3183342108 aV
def Qy(r c:Nat):Nat:=gX (gX (r ^^^ c))
def afN{r c:Nat}(a:r<4294967296)(b:c<256):Qy r c<4294967296:=adJ (adJ (Y6 a ah))
def PN(r:Nat)(s:Q0):Nat:=s.foldl (λr c=>Qy r c.toNat) r
def amo:∀(s:Q0)(r:Nat),r<4294967296->PN r s<4294967296
 |[],r,h=>h
 |c::s,r,h=>amo s _ (afN h (by have:=c.toNat_lt;omega))
set_option maxHeartbeats 8000000 in
def ayS(r:Nat)(j:r<4294967296)(c:UInt8)(s:Q0)(k l m:GV)(L:Int)(i:Nat)(f:Q1)(h:(i:Int)<L)(g:s[i]? =some c)(q:IntKind.i64.wrap ((i:Int)+1)=(i:Int)+1)
 (o:TT.lim 158 [.i .u32 (Qy r c.toNat:Nat),.s s,k,l,m,.zq L,.zq ((i:Int)+1),.i .u32 0,.i .u32 498536548,.i .u32 997073096,.i .u32 651767980,.i .u32 1994146192,.i .u32 1802195444,.i .u32 1303535960,.i .u32 1342533948,.i .u32 3988292384,.i .u32 4027552580,.i .u32 3604390888,.i .u32 3412177804,.i .u32 2607071920,.i .u32 2262029012,.i .u32 2685067896,.i .u32 3183342108]=some f):TT.lim 158 [.i .u32 (r:Nat),.s s,k,l,m,.zq L,.zq i,.i .u32 0,.i .u32 498536548,.i .u32 997073096,.i .u32 651767980,.i .u32 1994146192,.i .u32 1802195444,.i .u32 1303535960,.i .u32 1342533948,.i .u32 3988292384,.i .u32 4027552580,.i .u32 3604390888,.i .u32 3412177804,.i .u32 2607071920,.i .u32 2262029012,.i .u32 2685067896,.i .u32 3183342108]=some f:=by
 have E:=c.toNat_lt;have t:=wrap32 (n:=(c.toNat:Int)) ah ah;have X:=x32 r c.toNat j ah;have p:=Y6 j (ah:c.toNat<4294967296);unfold Qy at o;generalize r ^^^ c.toNat=x at *;have u:=al5 x;have v:=adJ p;have w:=nib x p;generalize gX x=y at *;have A:=al5 y;have D:=nib y v;generalize gX y=z at *;rcases w with⟨a,b⟩|⟨a,b⟩|⟨a,b⟩|⟨a,b⟩|⟨a,b⟩|⟨a,b⟩|⟨a,b⟩|⟨a,b⟩|⟨a,b⟩|⟨a,b⟩|⟨a,b⟩|⟨a,b⟩|⟨a,b⟩|⟨a,b⟩|⟨a,b⟩|⟨a,b⟩
 all_goals as_aux_lemma=>
  refine aB ?_;simp -implicitDefEqProofs[h,g,t,X,a,u,b];rcases D with⟨d,e⟩|⟨d,e⟩|⟨d,e⟩|⟨d,e⟩|⟨d,e⟩|⟨d,e⟩|⟨d,e⟩|⟨d,e⟩|⟨d,e⟩|⟨d,e⟩|⟨d,e⟩|⟨d,e⟩|⟨d,e⟩|⟨d,e⟩|⟨d,e⟩|⟨d,e⟩
  all_goals simp -implicitDefEqProofs[d,A,e,q,o]
def ake(s:Q0)(n:s.length<=100000000)(c d f:GV):∀(m i:Nat)(r:Nat),i+m=s.length->r<4294967296->
 TT.lim 158 [.i .u32 (r:Nat),.s s,c,d,f,.zq s.length,.zq i,.i .u32 0,.i .u32 498536548,.i .u32 997073096,.i .u32 651767980,.i .u32 1994146192,.i .u32 1802195444,.i .u32 1303535960,.i .u32 1342533948,.i .u32 3988292384,.i .u32 4027552580,.i .u32 3604390888,.i .u32 3412177804,.i .u32 2607071920,.i .u32 2262029012,.i .u32 2685067896,.i .u32 3183342108]=some [.zq 0,.i .u32 (PN r (s.drop i):Nat)]
 |0,i,r,hi,g=>by
  have e:s.drop i=[]:=iK;have h:¬((i:Int)<s.length):=ah;rw[e];show _=some [GV.zq 0,.i .u32 (r:Nat)]
  refine aB ?_;simp[h]
 |m+1,i,r,hi,g=>by have b:i<s.length:=ah;have j:s.drop i=s[i]::s.drop (i+1):=iR b;have k:s[i]? =some s[i]:=bZ b;have a:((i+1:Nat):Int)=(i:Int)+1:=ah;have o:=bH ((i:Int)+1);have l:=ake s n c d f m (i+1) (Qy r s[i].toNat) ah (afN g (by have:=s[i].toNat_lt;omega));rw[a]at l;rw[j];exact ayS r g s[i] s c d f s.length i _ ah k o l
def aj3(a:Nat)(b:a<4294967296):dw .xor .u32 4294967295 (a:Int)=some (.i .u32 ((4294967295-a:Nat):Int)):=by
 show some (GV.i IntKind.u32 (IntKind.u32.wrap ((BitVec.ofInt 32 4294967295 ^^^ BitVec.ofInt 32 (a:Int)).toNat:Int)))=_
 have e:BitVec.ofInt 32 4294967295=BitVec.allOnes 32:=aV;rw[e,BitVec.xor_comm,aes,aep,ofInt32 a b,wrap32 ah ah]
def jo(s:Q0):Nat:=4294967295-PN 4294967295 s
def agB(s:Q0):jo s<4294967296:=by unfold jo;omega
def aEx:TT.lim 156 []=some [.g [.i .u32 0,.i .u32 498536548,.i .u32 997073096,.i .u32 651767980,.i .u32 1994146192,.i .u32 1802195444,.i .u32 1303535960,.i .u32 1342533948,.i .u32 3988292384,.i .u32 4027552580,.i .u32 3604390888,.i .u32 3412177804,.i .u32 2607071920,.i .u32 2262029012,.i .u32 2685067896,.i .u32 3183342108]]:=D7 (Ds:=Ds) (f:=YA) rfl rfl
def aau(s:Q0)(d:s.length<=100000000):TT.lim 154 [.l [.s s]]=some [.i .u32 (jo s:Nat)]:=by
 have a:=ake s d (.l [.s s]) (.zq 1) (.zq 0) s.length 0 4294967295 ah aV;rw[dY]at a;have a:TT.lim 158 [.i .u32 4294967295,.s s,.l [.s s],.zq 1,.zq 0,.zq s.length,.zq 0,.i .u32 0,.i .u32 498536548,.i .u32 997073096,.i .u32 651767980,.i .u32 1994146192,.i .u32 1802195444,.i .u32 1303535960,.i .u32 1342533948,.i .u32 3988292384,.i .u32 4027552580,.i .u32 3604390888,.i .u32 3412177804,.i .u32 2607071920,.i .u32 2262029012,.i .u32 2685067896,.i .u32 3183342108]=some [.zq 0,.i .u32 (PN 4294967295 s:Nat)]:=a;have b:=amo s 4294967295 aV;have e:=aj3 (PN 4294967295 s) b;unfold jo;have f:=aEx;have w0:IntKind.i64.wrap 1=1:=aV;generalize PN 4294967295 s=Z at *;have g:TT.lim 157 [.i .u32 (Z:Nat),.l [.s s],.zq 1,.zq 1,.i .u32 0,.i .u32 498536548,.i .u32 997073096,.i .u32 651767980,.i .u32 1994146192,.i .u32 1802195444,.i .u32 1303535960,.i .u32 1342533948,.i .u32 3988292384,.i .u32 4027552580,.i .u32 3604390888,.i .u32 3412177804,.i .u32 2607071920,.i .u32 2262029012,.i .u32 2685067896,.i .u32 3183342108]=some [.zq 0,.i .u32 (Z:Nat)]:=by refine aB ?_;simp
 have h:TT.lim 157 [.i .u32 4294967295,.l [.s s],.zq 1,.zq 0,.i .u32 0,.i .u32 498536548,.i .u32 997073096,.i .u32 651767980,.i .u32 1994146192,.i .u32 1802195444,.i .u32 1303535960,.i .u32 1342533948,.i .u32 3988292384,.i .u32 4027552580,.i .u32 3604390888,.i .u32 3412177804,.i .u32 2607071920,.i .u32 2262029012,.i .u32 2685067896,.i .u32 3183342108]=some [.zq 0,.i .u32 (Z:Nat)]:=by refine aB ?_;simp[a,w0,g]
 have i:dw .xor .u32 4294967295 0=some (.i .u32 4294967295):=aj3 0 aV;have j:∀n:Int,YU .xor (some (.i .u32 n))=dw .xor .u32 4294967295 n:=λ_=>rfl;have c:TT.lim 155 [.i .u32 0,.l [.s s]]=some [.i .u32 (4294967295-Z:Nat)]:=by refine aW ?_;simp[f,j,i,h,e]
 refine aW ?_;simp[c]
def Uf(n:Int):IntKind.u8.wrap n=n%256:=by simp[IntKind.wrap,IntKind.signed,IntKind.bits]
def le4(n:Nat):Q0:=[UInt8.ofNat (n%256),UInt8.ofNat (n/256%256),UInt8.ofNat (n/65536%256),UInt8.ofNat (n/16777216%256)]
def eX(p:Q0):Q0:=[81,70]++aS p.length++p++le4 (jo p)
def aw3(n:Nat):pR [.i .u8 ((n:Int)%256),.i .u8 ((n:Int)/256%256),.i .u8 ((n:Int)/65536%256),.i .u8 ((n:Int)/16777216%256)]=some (le4 n):=by
 have a:∀(x:Int)(r:Q1),0<=x->x<256->pR (.i .u8 x::r)=(pR r).map (UInt8.ofNat x.toNat::·):=λx r b c=>by
  show(if _ then _ else _)=_
  rw[au ⟨b,c⟩]
 rw[a _ _ ah ah,a _ _ ah ah,a _ _ ah ah,a _ _ ah ah];show some _=_
 unfold le4;congr 5<;>omega
def aDP(a:Nat):kT .shr .u32 (a:Int) 8=some (.i .u32 ((a:Int)/256)):=by
 show some (GV.i IntKind.u32 ((a:Int).fdiv (2^8)))=_
 rw[Gy _ aV];rfl
def aDL(a:Nat):kT .shr .u32 (a:Int) 16=some (.i .u32 ((a:Int)/65536)):=by
 show some (GV.i IntKind.u32 ((a:Int).fdiv (2^16)))=_
 rw[Gy _ aV];rfl
def aDN(a:Nat):kT .shr .u32 (a:Int) 24=some (.i .u32 ((a:Int)/16777216)):=by
 show some (GV.i IntKind.u32 ((a:Int).fdiv (2^24)))=_
 rw[Gy _ aV];rfl
def anf(p:Q0)(q:p.length<=65536):TT.lim 153 [.s p]=some [.s (eX p),.zq 0]:=by have b:=aau p ah;have c:=agB p;have d:=zY p.length ah;have e:=nY (n:=p.length) ah;have f:=jV ((p.length:Int));have g:¬(65536:Int)<p.length:=ah;have h:(2:Int)+(aS p.length).length<=9223372036854775807:=ah;have i:((aS p.length).length:Int)+1+1+p.length<=9223372036854775807:=ah;have j:((aS p.length).length:Int)+p.length+1+1+4<=9223372036854775807:=ah;unfold eX;have k:=aw3 (jo p);have l:(le4 (jo p)).length=4:=rfl;have s8:=aDP (jo p);have s16:=aDL (jo p);have a:=aDN (jo p);generalize jo p=n,aS p.length=V at *;have w0:=Uf (n:Int);have w1:=Uf ((n:Int)/256);have m:=Uf ((n:Int)/65536);have o:=Uf ((n:Int)/16777216);generalize le4 n=r,(n:Int)%256=s,(n:Int)/256%256=t,(n:Int)/65536%256=u,(n:Int)/16777216%256=v at *;refine aW ?_;simp -implicitDefEqProofs[-List.append_assoc,g,b,d,f,s8,s16,a,w0,w1,m,o,k,l,h,i,j]
def QV(b:aQ)(a:List aK)(v:Int):(qO b a v).1.length<=65536:=by
 unfold qO;split
 ·split
  ·simp
  ·simp only;omega
 ·simp
