/- What the trees compute: plain laws. -/
import Derived.Test.YtkoclengoeonnaaGreatDoorKQe4
set_option linter.all false
namespace Go.Proofs.YtkoclengoeonnaaGreatDoor
open Go Go.aP
set_option maxRecDepth 100000
namespace Q
mutual
def Uk:aK->List UInt8
 |.mk t y n s k=>bg (4*t+y).toNat++(if y=0 then bg n.toNat else if y=1 then bg s.length++s else bg (dY k).length++dY k)
def dY:List aK->List UInt8
 |[]=>[]
 |f::l=>Uk f++dY l
end
mutual
def wF:aK->Nat
 |.mk _ _ _ s k=>s.length+40+wL k
def wL:List aK->Nat
 |[]=>0
 |f::l=>wF f+wL l
end
mutual
def NH:aK->Prop
 |.mk t y n s k=>(1<=t/\t<=4294967296)/\((y=0/\s=[]/\k=[])\/(y=1/\n=0/\k=[])\/(y=2/\n=0/\s=[]))/\xI k
def xI:List aK->Prop
 |[]=>True
 |f::l=>NH f/\xI l
end
def acr:∀{l:List aK},xI l->∀f∈l,NH f
 |f::l,h,g,a=>by
  simp only[xI]at h;rcases bJ.1 a with rfl|a
  ·exact h.1
  ·exact acr h.2 g a
def Yp:∀(N:Nat)(l:List aK),dA l<N->dX l->∀w a,jT w a l=0->0<=a->xI l
 |0,l,h,_,_,_,_,_=>ah
 |N+1,[],_,_,_,_,_,_=>by simp only[xI]
 |N+1,.mk t y n s k::l,j,d,w,a,h,m=>by
  simp only[dA,uZ]at j;simp only[dX,uK]at d;unfold jT at h;by_cases h1:(aK.mk t y n s k).tag=0
  ·rw[au h1]at h;exact absurd h aX
  rw[aj h1]at h;by_cases g:4294967296<(aK.mk t y n s k).tag
  ·rw[au g]at h;exact absurd h aX
  rw[aj g]at h;by_cases i:(aK.mk t y n s k).tag<=a
  ·rw[au i]at h;exact absurd h aX
  rw[aj i]at h;by_cases b:Bz w (.mk t y n s k)=0;rotate_left
  ·rw[au b]at h;exact absurd h b
  rw[aj (λe=>e b)]at h;have h1:¬t=0:=h1;have g:¬4294967296<t:=g;have i:¬t<=a:=i;simp only[xI,NH];refine⟨⟨ah,?_,?_⟩,Yp N l ah d.2 w t h ah⟩
  ·simp only[Bz]at b;split at b
   ·rename_i f
    split at b
    ·rename_i c;exact .inl ⟨f,c⟩
    ·cases b
   ·split at b
    ·rename_i f
     split at b
     ·rename_i c;exact .inr (.inl ⟨f,c⟩)
     ·cases b
    ·split at b
     ·rename_i f
      split at b
      ·rename_i c;exact .inr (.inr ⟨f,c⟩)
      ·cases b
     ·cases b
  ·simp only[Bz]at b;split at b
   ·split at b
    ·rename_i c;rw[c.2];simp only[xI]
    ·cases b
   ·split at b
    ·split at b
     ·rename_i c;rw[c.2];simp only[xI]
     ·cases b
    ·split at b
     ·split at b
      ·split at b
       ·cases b
       ·exact Yp N k ah d.1.2 _ _ b ah
      ·cases b
     ·cases b
def Ph:∀(N:Nat)(l:List aK),dA l<N->dX l->xI l->wL l<=1000000000000->(dY l).length<=wL l
 |0,l,h,_,_,_=>ah
 |N+1,[],_,_,_,_=>by simp[dY]
 |N+1,.mk t y n s k::l,c,b,a,d=>by
  simp only[dA,uZ]at c;simp only[dX,uK]at b;simp only[xI,NH]at a;simp only[wL,wF]at d⊢;have h1:=Ph N l ah b.2 a.2 ah;have e:=Ph N k ah b.1.2 a.1.2.2 ah;simp only[dY,Uk,gu];have f:=nN (n:=(4*t+y).toNat) (by rcases a.1.2.1 with h|h|h<;>omega);have g:=nN (n:=n.toNat) ah;have i:=nN (n:=s.length) ah;have j:=nN (n:=(dY k).length) ah;split
  ·omega
  ·split
   ·rw[gu];omega
   ·rw[gu];omega
def agw(t y:Int)(h:1<=t/\t<=4294967296)(j:0<=y/\y<4):jQ .shl .u64 t 2=some (.zu (4*t))/\IntKind.u64.wrap y=y/\bV .or .u64 (4*t) y=some (.zu (4*t+y)):=by
 have a:∀y:Int,IntKind.u64.wrap y=y%18446744073709551616:=λy=>by simp[IntKind.wrap,IntKind.signed,IntKind.bits]
 have c:IntKind.u64.bits=64:=rfl;refine⟨?_,by rw[a];omega,?_⟩
 ·have d:jQ .shl .u64 t 2=some (.zu (IntKind.u64.wrap (t*2^2))):=rfl;rw[d,a];congr 2;omega
 ·simp only[bV,a,c];obtain⟨T,rfl⟩:∃T:Nat,t=(T:Int):=⟨t.toNat,ah⟩
  obtain⟨Y,rfl⟩:∃Y:Nat,y=(Y:Int):=⟨y.toNat,ah⟩
  have e:(BitVec.ofInt 64 (4*(T:Int))).toNat=4*T:=by rw[tY];omega
  have f:(BitVec.ofInt 64 (Y:Int)).toNat=Y:=by rw[tY];omega
  have g:4*T |||Y=4*T+Y:=(akT (i:=2) (b:=Y) ah T).symm;show some (GV.i IntKind.u64 (((BitVec.ofInt 64 (4*(T:Int)) |||BitVec.ofInt 64 (Y:Int)).toNat:Int)%18446744073709551616))=_
  rw[acR,e,f,g];congr 2;omega
def afS{t y n:Int}{s:Q0}{k:List aK}(h:NH (.mk t y n s k)):1<=t/\t<=4294967296/\0<=y/\y<3/\(y=0\/y=1\/y=2)/\xI k:=by simp only[NH]at h;rcases h.2.1 with h1|h1|h1<;>exact⟨h.1.1,h.1.2,ah,ah,ah,h.2.2⟩
def abW:∀(N:Nat)(l:List aK),dA l<N->dX l->xI l->l.length<=1000000->wL l<=1000000000000->TT.lim 109 [.l (aI l)]=some [.zq (dY l).length]
 |0,l,h,_,_,_,_=>ah
 |N+1,l,hN,w,x,L,hw=>by
  have g:=oK l;have loop:∀m i,i+m=l.length->∀b:Nat,b+wL (l.drop i)<=1000000000000->TT.lim 110 [.l (aI l),.zq b,.zq l.length,.zq i]=some [.zq 0,.zq ((b+(dY (l.drop i)).length:Nat):Int)]:=by
   intro m;induction m with
   |zero=>intro i hi b c;have z:l.drop i=[]:=gJ;have h:¬((i:Int)<l.length):=ah;rw[z];simp only[dY,mZ,nR];refine aB ?_;simp[h]
   |succ m P=>
    intro i hi b c;obtain⟨t,y,n,s,k,g1,D,g3,g4⟩:=FY (l:=l) (i:=i) ah;have u:=FZ w _ g4;have R:=acr x _ g4;simp only[uK]at u;obtain⟨S,T,U,y2,V,M⟩:=afS R;have W:=WQ g4;simp only[uZ]at W;rw[g3]at c⊢;simp only[wL,wF]at c;have X:=abW N k ah u.2 M u.1.2.2.2.2.2.2.2 ah;have Y:=Ph (dA k+1) k ah u.2 M ah;obtain⟨E,F,G⟩:=agw t y ⟨S,T⟩ ⟨U,ah⟩;have v:=Nw (4*t+y).toNat ah;have O:=Nw n.toNat ah;have Z:=Nw s.length ah;have v4:=Nw (dY k).length ah;have z1:=G5 (n:=(4*t+y).toNat) ah;have z2:=G5 (n:=n.toNat) ah;have z3:=G5 (n:=s.length) ah;have z4:=G5 (n:=(dY k).length) ah;rw[(ah:(((4*t+y).toNat:Nat):Int)=4*t+y)]at v;rw[(ah:((n.toNat:Nat):Int)=n)]at O;have j:((i+1:Nat):Int)=(i:Int)+1:=ah;have o:=bD ((i:Int)+1);have h:((i:Int)<l.length):=ah;have e:=λa ha=>P (i+1) ah a ha;simp only[j]at e;have z:(bg (4*t+y).toNat).length=fJ (4*t+y).toNat:=rfl;have e2:(bg n.toNat).length=fJ n.toNat:=rfl;have e3:(bg s.length).length=fJ s.length:=rfl;have e4:(bg (dY k).length).length=fJ (dY k).length:=rfl;have u3:=jD ((s.length:Int));have u4:=jD (((dY k).length:Int));simp only[dY,Uk,gu];rw[z];generalize fJ (4*t+y).toNat=A at *;have w1:=bD ((b:Int)+A);rcases V with d|d|d
    ·rw[au d,e2];generalize fJ n.toNat=B at *;have p:=bD ((b:Int)+A+B);have f:=e (b+A+B) ah;rw[(ah:((b+A+B:Nat):Int)=(b:Int)+A+B),(ah:b+A+B+(dY (l.drop (i+1))).length=b+(A+B+(dY (l.drop (i+1))).length))]at f;have q:(y=0)=True:=eq_true d;clear d;refine aB ?_;simp[h,D,q,E,F,G,v,O,w1,p,o,f]
    ·rw[eX,au d,gu,e3];generalize fJ s.length=B at *;have p:=bD ((B:Int)+s.length);have H:=bD ((b:Int)+A+(B+s.length));have f:=e (b+A+(B+s.length)) ah;rw[(ah:((b+A+(B+s.length):Nat):Int)=(b:Int)+A+(B+s.length)),(ah:b+A+(B+s.length)+(dY (l.drop (i+1))).length=b+(A+(B+s.length)+(dY (l.drop (i+1))).length))]at f;have q:(y=0)=False:=eq_false ah;have I:(y=1)=True:=eq_true d;clear d;refine aB ?_;simp[h,D,q,I,E,F,G,v,Z,u3,w1,p,H,o,f]
    ·rw[eX,eX,gu,e4];generalize fJ (dY k).length=B at *;generalize(dY k).length=C at *;have p:=bD ((B:Int)+C);have H:=bD ((b:Int)+A+(B+C));have f:=e (b+A+(B+C)) ah;rw[(ah:((b+A+(B+C):Nat):Int)=(b:Int)+A+(B+C)),(ah:b+A+(B+C)+(dY (l.drop (i+1))).length=b+(A+(B+C)+(dY (l.drop (i+1))).length))]at f;have q:(y=0)=False:=eq_false ah;have I:(y=1)=False:=eq_false ah;have q2:(y=2)=True:=eq_true d;clear d;refine aB ?_;simp[h,D,q,I,q2,E,F,G,v,X,v4,u4,w1,p,H,o,f]
  have J:=loop l.length 0 ah 0 (by rw[dD];omega);rw[dD,kX]at J;have r:TT.lim 110 [.l (aI l),.zq 0,.zq (aI l).length,.zq 0]=some [.zq 0,.zq ((dY l).length:Int)]:=by rw[g];exact J
  rw[g]at r;clear loop J;refine aQ ?_;simp[g,r]
def Ig(a b:Q0):bQ (a++b)=bQ a++bQ b:=by simp[bQ]
def akF:∀(N:Nat)(l:List aK),dA l<N->dX l->xI l->l.length<=1000000->∀B:Q0,B.length+wL l<=1000000000000->TT.lim 111 [.l (bQ B),.l (aI l)]=some [.zq 0,.l (bQ (B++dY l))]
 |0,l,h,_,_,_,_,_=>ah
 |N+1,l,hN,x,D,S,B,hB=>by
  have E:=oK l;have loop:∀m i,i+m=l.length->∀b:Q0,b.length+wL (l.drop i)<=1000000000000->TT.lim 112 [.l (bQ b),.l (aI l),.zq l.length,.zq i]=some [.zq 0,.l (bQ (b++dY (l.drop i)))]:=by
   intro m;induction m with
   |zero=>intro i hi b c;have U:l.drop i=[]:=gJ;have h:¬((i:Int)<l.length):=ah;rw[U];simp only[dY,qZ];refine aB ?_;simp[h]
   |succ m V=>
    intro i hi b c;obtain⟨t,y,n,s,k,g1,F,g3,g4⟩:=FY (l:=l) (i:=i) ah;have p:=FZ x _ g4;have W:=acr D _ g4;simp only[uK]at p;obtain⟨X,Y,Z,y2,y3,G⟩:=afS W;have hs:=WQ g4;simp only[uZ]at hs;rw[g3]at c⊢;simp only[wL,wF]at c;have hk:=abW N k ah p.2 G p.1.2.2.2.2.2.2.2 ah;have aa:=Ph (dA k+1) k ah p.2 G ah;obtain⟨H,I,J⟩:=agw t y ⟨X,Y⟩ ⟨Z,ah⟩;have w:=yA (4*t+y).toNat ah;have T:=yA n.toNat ah;have v3:=yA s.length ah;have v4:=yA (dY k).length ah;have z1:=nN (n:=(4*t+y).toNat) ah;have z2:=nN (n:=n.toNat) ah;have z3:=nN (n:=s.length) ah;have z4:=nN (n:=(dY k).length) ah;rw[(ah:(((4*t+y).toNat:Nat):Int)=4*t+y)]at w;rw[(ah:((n.toNat:Nat):Int)=n)]at T;have j:((i+1:Nat):Int)=(i:Int)+1:=ah;have o:=bD ((i:Int)+1);have h:((i:Int)<l.length):=ah;have e:=λa ha=>V (i+1) ah a ha;simp only[j]at e;have u3:=jD ((s.length:Int));have u4:=jD (((dY k).length:Int));have L:∀z:Q0,(bQ z).all (λg=>g.fQ 1)=true:=λz=>by simp[bQ,GV.fQ]
    have M:∀z:Q0,(bQ z).length=z.length:=λz=>by simp[bQ]
    simp only[dY,Uk];rcases y3 with d|d|d
    ·rw[au d];have f:=e (b++bg (4*t+y).toNat++bg n.toNat) (by simp only[gu];omega);rw[show b++bg (4*t+y).toNat++bg n.toNat++dY (l.drop (i+1))=b++(bg (4*t+y).toNat++bg n.toNat++dY (l.drop (i+1))) by simp,Ig,Ig]at f;generalize bg (4*t+y).toNat=A,bg n.toNat=C at *;have q:2*(b.length+A.length)<=281474976710656/\b.length+A.length<=281474976710656:=ah;have r:2*(b.length+A.length+C.length)<=281474976710656/\b.length+A.length+C.length<=281474976710656:=ah;have u:(y=0)=True:=eq_true d;clear d;refine aB ?_;simp[-List.append_assoc,h,F,u,H,I,J,w,T,o,f,L,M,q,r]
    ·rw[eX,au d];have f:=e (b++bg (4*t+y).toNat++bg s.length++s) (by simp only[gu];omega);rw[show b++bg (4*t+y).toNat++bg s.length++s++dY (l.drop (i+1))=b++(bg (4*t+y).toNat++(bg s.length++s)++dY (l.drop (i+1))) by simp,Ig,Ig,Ig]at f;generalize bg (4*t+y).toNat=A,bg s.length=C at *;have q:2*(b.length+A.length)<=281474976710656/\b.length+A.length<=281474976710656:=ah;have r:2*(b.length+A.length+C.length)<=281474976710656/\b.length+A.length+C.length<=281474976710656:=ah;have c3:2*(b.length+A.length+C.length+s.length)<=281474976710656/\b.length+A.length+C.length+s.length<=281474976710656:=ah;have u:(y=0)=False:=eq_false ah;have O:(y=1)=True:=eq_true d;clear d;refine aB ?_;simp[-List.append_assoc,h,F,u,O,H,I,J,w,v3,u3,o,f,L,M,q,r,c3]
    ·rw[eX,eX];have v:=akF N k ah p.2 G p.1.2.2.2.2.2.2.2 (b++bg (4*t+y).toNat++bg (dY k).length) (by simp only[gu];omega);have f:=e (b++bg (4*t+y).toNat++bg (dY k).length++dY k) (by simp only[gu];omega);rw[show b++bg (4*t+y).toNat++bg (dY k).length++dY k++dY (l.drop (i+1))=b++(bg (4*t+y).toNat++(bg (dY k).length++dY k)++dY (l.drop (i+1))) by simp]at f;rw[Ig (b++_),Ig b]at v;generalize bg (4*t+y).toNat=A,bg (dY k).length=C at *;have q:2*(b.length+A.length)<=281474976710656/\b.length+A.length<=281474976710656:=ah;have r:2*(b.length+A.length+C.length)<=281474976710656/\b.length+A.length+C.length<=281474976710656:=ah;generalize dY k=K at *;have u:(y=0)=False:=eq_false ah;have O:(y=1)=False:=eq_false ah;have q2:(y=2)=True:=eq_true d;clear d;refine aB ?_;simp[-List.append_assoc,h,F,u,O,q2,H,I,J,w,hk,v4,u4,v,o,f,L,M,q,r]
  have P:=loop l.length 0 ah B (by rw[dD];omega);rw[dD]at P;have R:TT.lim 112 [.l (bQ B),.l (aI l),.zq l.length,.zq 0]=some [.zq 0,.l (bQ (B++dY l))]:=P;clear loop P;generalize bQ B=B' at *;refine aB ?_;simp[E,R]
def av3{α β:Type}{f:α->β}{n o:List β}(h:n.Perm o):∀l:List α,o=l.map f->∃p:List α,p.Perm l/\n=p.map f:=by
 induction h with
 |nil=>intro l e;exact⟨l,.refl _,e⟩
 |cons x _ r=>
  intro l e;cases l with
  |nil=>cases e
  |cons a l=>
   injection e with c d
   obtain⟨p,g,i⟩:=r l d;exact⟨a::p,g.cons a,by rw[iC,<-i,<-c]⟩
 |swap x y l=>
  intro m e;rcases m with _|⟨a,_|⟨b,m⟩⟩
  ·cases e
  ·cases e
  ·simp only[iC,zI]at e;obtain⟨c,d,s⟩:=e;exact⟨b::a::m,List.Perm.swap a b m,by rw[iC,iC,<-c,<-d,<-s]⟩
 |trans _ _ j k=>intro l e;obtain⟨p,g,i⟩:=k l e;obtain⟨q,t,u⟩:=j p i;exact⟨q,t.trans g,u⟩
def ajE:∀(p q:List aK),p.Perm q->p.Pairwise (λa b=>a.tag<=b.tag)->q.Pairwise (λa b=>a.tag<b.tag)->p=q
 |[],q,h,_,_=>(List.nil_perm.1 h).symm
 |a::p,[],h,_,_=>by have:=h.length_eq;simp at this
 |a::p,b::q,h,c,d=>by
  have f:b∈a::p:=h.mem_iff.2 aA;have g:a∈b::q:=h.mem_iff.1 aA;rw[jm]at c d;have i:a.tag<=b.tag:=by
   rcases bJ.1 f with e|f
   ·rw[e];exact AQ _
   ·exact c.1 b f
  have e:a=b:=by
   rcases bJ.1 g with e|g
   ·exact e
   ·have:=d.1 a g;omega
  subst e;rw[ajE p q (List.Perm.cons_inv h) c.2 d.2]
def MV(f:aK):List aK->Nat
 |[]=>0
 |g::l=>if g.tag<f.tag then MV f l+1 else 0
def F7(f:aK)(a:List aK):List aK:=a.take (MV f a)++f::a.drop (MV f a)
def L6(a l:List aK):List aK:=l.foldl (λo f=>F7 f o) a
def agK(f:aK)(a:List aK):(F7 f a).Perm (f::a):=by unfold F7;refine List.perm_middle.trans ?_;rw[KA]
def agL(f:aK):∀d:List aK,d.Pairwise (λa b=>a.tag<b.tag)->(∀g∈d,g.tag≠f.tag)->(F7 f d).Pairwise (λa b=>a.tag<b.tag)/\(∀g,d[MV f d]? =some g->g.tag≠f.tag)
 |[],_,_=>by simp[F7,MV]
 |g::l,e,i=>by
  rw[jm]at e;unfold F7 MV;by_cases h:g.tag<f.tag
  ·obtain⟨j,k⟩:=agL f l e.2 λx c=>i x (by simp[c]);rw[au h];simp only[Dn,Xw,bI,vk];refine⟨List.pairwise_cons.2 ⟨λx c=>?_,j⟩,k⟩;have:=(agK f l).mem_iff.1 c;rcases bJ.1 this with rfl|c
   ·exact h
   ·exact e.1 x c
  ·rw[aj h];have m:=i g aA;simp only[Rl,dD,bf,kP];refine⟨List.pairwise_cons.2 ⟨λx c=>?_,jm.2 e⟩,λx c=>?_⟩
   ·rcases bJ.1 c with rfl|c
    ·omega
    ·have:=e.1 x c;omega
   ·injection c with c
    rw[<-c];exact m
def ZJ:∀(l c:List aK),c.Pairwise (λa b=>a.tag<b.tag)->((c++l).map aK.tag).Nodup->(L6 c l).Perm (c++l)/\(L6 c l).Pairwise (λa b=>a.tag<b.tag)
 |[],c,d,_=>by simp only[L6,List.foldl_nil,qZ];exact⟨.refl _,d⟩
 |f::l,c,d,h=>by
  have k:∀g∈c,g.tag≠f.tag:=λg m e=>by rw[ng,List.nodup_append]at h;exact h.2.2 g.tag (List.mem_map_of_mem m) f.tag aA e
  have n:=(agL f c d k).1;have i:(F7 f c++l).Perm (c++f::l):=((agK f c).append_right l).trans (List.perm_middle.symm);have j:=ZJ l (F7 f c) n ((i.map aK.tag).nodup_iff.2 h);exact⟨j.1.trans i,j.2⟩
def afR(l:List aK):(aI l).all (λg=>g.fQ 5)=true:=by rw[BK,List.all_eq_true];intro g a;obtain⟨f,_,rfl⟩:=qK.1 a;cases f;simp only[pq];rfl
def Uh(a b:List aK):aI (a++b)=aI a++aI b:=by simp only[BK,ng]
def vT(a b:List aK):List aK:=L6 [] (a++b)
def ahN{a b:List aK}(c:((a++b).map aK.tag).Nodup):(vT a b).Perm (a++b)/\(vT a b).Pairwise (λx y=>x.tag<y.tag):=ZJ (a++b) [] List.Pairwise.nil c
def SG(s:Q0):mg (bQ s)=some s:=by
 induction s with
 |nil=>rfl
 |cons a s c=>
  have d:(0:Int)<=a.toNat/\((a.toNat:Nat):Int)<256:=by have:=a.toNat_lt;omega
  show(if _ then _ else _)=_
  rw[au d];have e:(s.map λb=>GV.i .u8 b.toNat)=bQ s:=rfl;rw[e,c];simp
def aB7(l:List aK)(a:dX l)(b:l.length<=1000000)(d:wL l<=1000000000000)(f:jT 0 0 l=0):TT.lim 108 [.l (aI l)]=some (if 65536<(dY l).length then[.s [],.zq 4]else[.s (dY l),.zq 0]):=by
 have e:=Yp (dA l+1) l ah a 0 0 f ah;have g:=Ua l a b;rw[f]at g;have j:=abW (dA l+1) l ah a e b d;have k:=akF (dA l+1) l ah a e b [] (by simpa using d);have m:bQ []=[]:=rfl;rw[m,bf]at k;have h:=Ph (dA l+1) l ah a e d;by_cases c:65536<(dY l).length
 ·have i:(65536:Int)<(dY l).length:=ah;rw[au c];refine aQ ?_;simp[g,j,c,i]
 ·have i:¬(65536:Int)<(dY l).length:=ah;have n:=SG (dY l);have o:(bQ (dY l)).length=(dY l).length:=by simp[bQ]
  have p:(bQ (dY l)).length<=281474976710656:=ah;have q:(0:Int)<=(dY l).length/\((dY l).length:Int)<=281474976710656/\((dY l).length:Int)<=1152921504606846976:=ah;rw[aj c];clear a d f e h;generalize dY l=r,aI l=G at *;generalize bQ r=s at *;refine aQ ?_;simp[g,j,k,c,i,n,p,q,GV.fQ]
def ajZ(f:aK):JM (pq f)=f.tag:=by cases f;simp only[pq,aK.tag];rfl
def aqU(l:List aK):(aI l).all isTagged=true:=by rw[BK,List.all_eq_true];intro g a;obtain⟨f,_,rfl⟩:=qK.1 a;cases f;simp only[pq];rfl
def aA7{a b:List aK}(h:a.Perm b):dA a=dA b:=by
 induction h with
 |nil=>rfl
 |cons x _ c=>simp only[dA,c]
 |swap x y l=>simp only[dA];omega
 |trans _ _ d e=>rw[d,e]
def aB2{a b:List aK}(h:a.Perm b):wL a=wL b:=by
 induction h with
 |nil=>rfl
 |cons x _ c=>simp only[wL,c]
 |swap x y l=>simp only[wL];omega
 |trans _ _ d e=>rw[d,e]
def ajV:∀a b:List aK,dA (a++b)=dA a+dA b
 |[],b=>by simp[dA]
 |f::a,b=>by simp only[bI,dA,ajV a b];omega
def akz:∀a b:List aK,wL (a++b)=wL a+wL b
 |[],b=>by simp[wL]
 |f::a,b=>by simp only[bI,wL,akz a b];omega
def Ui:∀{l:List aK},(∀f∈l,uK f)->dX l
 |[],_=>by simp only[dX]
 |f::l,h=>by simp only[dX];exact⟨h f aA,Ui λg a=>h g (by simp[a])⟩
def aqX{a b:List aK}(h:a.Perm b)(c:dX b):dX a:=Ui λf d=>FZ c f (h.mem_iff.1 d)
def aqW{a b:List aK}(c:dX a)(d:dX b):dX (a++b):=Ui λf e=>(ny.1 e).elim (FZ c f) (FZ d f)
def aAi(l:List aK)(m:(l.map aK.tag).Nodup):vZ (aI l)=aI (L6 [] l):=by
 have k:=abX (aI l);have n:=aAh (aI l);rw[BK]at k;obtain⟨p,d,c⟩:=av3 k l rfl;rw[<-BK]at c;have f:=ZJ l [] List.Pairwise.nil m;rw[bf]at f;have g:p.Pairwise (λa b=>a.tag<=b.tag):=by rw[adn];intro i j hi o h;have:=n i j (pq p[i]) (pq p[j]) h (by rw[c,jf,bT hi];rfl) (by rw[c,jf,bT o];rfl);rwa [ajZ,ajZ]at this
 have e:=ajE p (L6 [] l) (d.trans f.1.symm) g f.2;rw[c,e,BK]
def aiJ(l:List aK)(E:l.length<=10000000)(v:l.Pairwise (λa b=>a.tag<b.tag)):∀m i:Nat,i+1+m=l.length->TT.lim 106 [.l (aI l),.zq ((i:Int)+1)]=some [.zq 1]
 |0,i,hi=>by have h:¬((i:Int)+1<l.length):=ah;have j:=oK l;refine aB ?_;simp[j,h]
 |m+1,i,hi=>by
  have h:((i:Int)+1<l.length):=ah;have j:=oK l;have w:=aiJ l E v m (i+1) ah;obtain⟨t,y,n,s,k,F,x,g3,g4⟩:=FY (l:=l) (i:=i) ah;obtain⟨g,z,A,B,D,o,d,G,H⟩:=FY (l:=l) (i:=i+1) ah;have I:t<g:=by
   have:=adn.1 v i (i+1) ah ah ah;have J:l[i]=.mk t y n s k:=by have:=bT (l:=l) (i:=i) ah;rw[F]at this;injection this with this;exact this.symm
   have L:l[i+1]=.mk g z A B D:=by have:=bT (l:=l) (i:=i+1) ah;rw[o]at this;injection this with this;exact this.symm
   rw[J,L]at this;exact this
  have p:¬g=t:=ah;have c:((i+1:Nat):Int)=(i:Int)+1:=ah;rw[c]at w;have M:=bD ((i:Int)+1+1);have e:=bD ((i:Int)+1-1);have f:(i:Int)+1-1=i:=ah;rw[f]at e;have q:(0:Int)<=(i:Int)+1:=ah;have N:((i:Int)+1).toNat=i+1:=ah;have r:i<l.length:=ah;have O:∀h:i<(aI l).length,(aI l)[i]=qO t y n s k:=λh=>by have:=bT h;rw[x]at this;injection this with this;exact this.symm
  have u:∀h:i+1<(aI l).length,(aI l)[i+1]=qO g z A B D:=λh=>by have:=bT h;rw[d]at this;injection this with this;exact this.symm
  refine aB ?_;simp[O,u,j,h,x,d,p,M,e,f,q,N,r,w]
def awG(a b:List aK)(l:dX a)(m:dX b)(v:a.length<=1000000)(w:b.length<=1000000)(n:dA a+dA b<=1000000)(o:jT 0 0 a=0)(p:jT 0 0 b=0)(g:((a++b).map aK.tag).Nodup):TT.lim 104 [.l [.l (aI a),.l (aI b)]]=some [.l (aI (vT a b)),.zq 0]:=by
 have q:=Ua a l v;have r:=Ua b m w;rw[o]at q;rw[p]at r;have c:=Uh a b;have s:=oK a;have t:=oK b;have o1:=afR a;have x:=afR b;have h:TT.lim 2 [.l (aI a++aI b)]=some [.l (aI (vT a b))]:=by
  refine CG (Ds:=Ds) (f:=QF) rfl ?_;have i:(aI a++aI b).length<=281474976710656/\(aI a++aI b).all isTagged=true:=by rw[<-c];exact⟨by rw[oK,gu];omega,aqU _⟩
  show(if(aI a++aI b).length<=281474976710656/\(aI a++aI b).all isTagged=true then some [GV.l (vZ (aI a++aI b))]else none)=_
  rw[au i,<-c,aAi _ g];rfl
 obtain⟨j,u⟩:=ahN g;have d:(vT a b).length=a.length+b.length:=by rw[j.length_eq,gu]
 have e:(aI (vT a b)).length=(aI a++aI b).length:=by rw[oK,d,gu,s,t]
 have k:=Ub (vT a b) (by rw[aA7 j,ajV];exact n);have i:TT.lim 106 [.l (aI (vT a b)),.zq 1]=some [.zq 1]:=by
  rcases Ro (vT a b).length with h0|h0
  ·have:vT a b=[]:=jR h0;rw[this];have fn:aI []=[]:=by simp only[aI]
   rw[fn];refine aB ?_;simp
  ·have:=aiJ (vT a b) ah u ((vT a b).length-1) 0 ah;simpa using this
 have w0:IntKind.i64.wrap 1=1:=aX;have w1:IntKind.i64.wrap 2=2:=aX;have y:2*(aI a).length*64<=281474976710656/\(aI a).length<=281474976710656:=ah;have z:2*((aI a).length+(aI b).length)*64<=281474976710656/\(aI a).length+(aI b).length<=281474976710656:=ah;clear g j u d o p l m n c s t;generalize aI (vT a b)=M,aI a=A,aI b=B at *;have D:TT.lim 105 [.l (A++B),.l [.l A,.l B],.zq 2,.zq 2]=some [.zq 1,.l (A++B)]:=by refine aB ?_;simp
 have E:TT.lim 105 [.l A,.l [.l A,.l B],.zq 2,.zq 1]=some [.zq 1,.l (A++B)]:=by refine aB ?_;simp[-List.all_eq_true,r,w1,x,z,D]
 have F:TT.lim 105 [.l [],.l [.l A,.l B],.zq 2,.zq 0]=some [.zq 1,.l (A++B)]:=by refine aB ?_;simp[-List.all_eq_true,q,w0,o1,y,E]
 rw[gu]at e;refine aQ ?_;simp[F,h,e,i,k]
def bC(r:Nat):Nat:=if r%2=1 then(r/2) ^^^ 3988292384 else r/2
def jI(a b:Nat):bC (a ^^^ b)=bC a ^^^ bC b:=by
 unfold bC;have c:(a ^^^ b)/2=a/2 ^^^ b/2:=Nat.xor_div_two;have d:(a ^^^ b)%2=(a+b)%2:=by have h:=Nat.xor_mod_two_eq_one (a:=a) (b:=b);generalize(a ^^^ b)=z at *;omega
 rw[c,d];have e:∀u v:Nat,(u ^^^ 3988292384) ^^^ (v ^^^ 3988292384)=u ^^^ v:=λu v=>by rw[oV,Nat.xor_comm v,<-oV 3988292384,Nat.xor_self,Nat.zero_xor]
 rcases adr a with f|f<;>rcases adr b with g|g
 ·rw[eX,eX,eX]
 ·rw[mW,eX,mW,oV]
 ·rw[mW,mW,eX,oV,oV,Nat.xor_comm (b/2)]
 ·rw[eX,mW,mW,e]
def jW(a:Nat):bC (2*a+1)=a ^^^ 3988292384:=by unfold bC;rw[mW,(ah:(2*a+1)/2=a)]
def jV(a:Nat):bC (2*a)=a:=by unfold bC;rw[eX,(ah:2*a/2=a)]
def fZ(r:Nat):Nat:=bC (bC (bC (bC r)))
def aAr(q:Nat):fZ (16*q)=q ^^^ 0:=by
 have a:bC (16*q)=8*q:=by rw[(ah:16*q=2*(8*q))];exact jV _
 have b:bC (8*q)=4*q:=by rw[(ah:8*q=2*(4*q))];exact jV _
 have c:bC (4*q)=2*q:=by rw[(ah:4*q=2*(2*q))];exact jV _
 have d:bC (2*q)=q:=by exact jV _
 unfold fZ;rw[a];rw[b];rw[c];rw[d];rw[Nat.xor_zero]
def aAs(q:Nat):fZ (16*q+1)=q ^^^ 498536548:=by
 have a:bC (16*q+1)=(8*q) ^^^ 3988292384:=by rw[(ah:16*q+1=2*(8*q)+1)];exact jW _
 have b:bC (8*q)=4*q:=by rw[(ah:8*q=2*(4*q))];exact jV _
 have c:bC (4*q)=2*q:=by rw[(ah:4*q=2*(2*q))];exact jV _
 have d:bC (2*q)=q:=by exact jV _
 unfold fZ;rw[a];rw[jI,b,show bC 3988292384=1994146192 by decide];rw[jI,c,show bC 1994146192=997073096 by decide];rw[jI,d,show bC 997073096=498536548 by decide]
def aAz(q:Nat):fZ (16*q+2)=q ^^^ 997073096:=by
 have a:bC (16*q+2)=8*q+1:=by rw[(ah:16*q+2=2*(8*q+1))];exact jV _
 have b:bC (8*q+1)=(4*q) ^^^ 3988292384:=by rw[(ah:8*q+1=2*(4*q)+1)];exact jW _
 have c:bC (4*q)=2*q:=by rw[(ah:4*q=2*(2*q))];exact jV _
 have d:bC (2*q)=q:=by exact jV _
 unfold fZ;rw[a];rw[b];rw[jI,c,show bC 3988292384=1994146192 by decide];rw[jI,d,show bC 1994146192=997073096 by decide]
def aAA(q:Nat):fZ (16*q+3)=q ^^^ 651767980:=by
 have a:bC (16*q+3)=(8*q+1) ^^^ 3988292384:=by rw[(ah:16*q+3=2*(8*q+1)+1)];exact jW _
 have b:bC (8*q+1)=(4*q) ^^^ 3988292384:=by rw[(ah:8*q+1=2*(4*q)+1)];exact jW _
 have c:bC (4*q)=2*q:=by rw[(ah:4*q=2*(2*q))];exact jV _
 have d:bC (2*q)=q:=by exact jV _
 unfold fZ;rw[a];rw[jI,b,show bC 3988292384=1994146192 by decide];rw[oV,show 3988292384 ^^^ 1994146192=2607071920 by decide];rw[jI,c,show bC 2607071920=1303535960 by decide];rw[jI,d,show bC 1303535960=651767980 by decide]
def aAB(q:Nat):fZ (16*q+4)=q ^^^ 1994146192:=by
 have a:bC (16*q+4)=8*q+2:=by rw[(ah:16*q+4=2*(8*q+2))];exact jV _
 have b:bC (8*q+2)=4*q+1:=by rw[(ah:8*q+2=2*(4*q+1))];exact jV _
 have c:bC (4*q+1)=(2*q) ^^^ 3988292384:=by rw[(ah:4*q+1=2*(2*q)+1)];exact jW _
 have d:bC (2*q)=q:=by exact jV _
 unfold fZ;rw[a];rw[b];rw[c];rw[jI,d,show bC 3988292384=1994146192 by decide]
def aAC(q:Nat):fZ (16*q+5)=q ^^^ 1802195444:=by
 have a:bC (16*q+5)=(8*q+2) ^^^ 3988292384:=by rw[(ah:16*q+5=2*(8*q+2)+1)];exact jW _
 have b:bC (8*q+2)=4*q+1:=by rw[(ah:8*q+2=2*(4*q+1))];exact jV _
 have c:bC (4*q+1)=(2*q) ^^^ 3988292384:=by rw[(ah:4*q+1=2*(2*q)+1)];exact jW _
 have d:bC (2*q)=q:=by exact jV _
 unfold fZ;rw[a];rw[jI,b,show bC 3988292384=1994146192 by decide];rw[jI,c,show bC 1994146192=997073096 by decide];rw[oV,show 3988292384 ^^^ 997073096=3604390888 by decide];rw[jI,d,show bC 3604390888=1802195444 by decide]
def aAD(q:Nat):fZ (16*q+6)=q ^^^ 1303535960:=by
 have a:bC (16*q+6)=8*q+3:=by rw[(ah:16*q+6=2*(8*q+3))];exact jV _
 have b:bC (8*q+3)=(4*q+1) ^^^ 3988292384:=by rw[(ah:8*q+3=2*(4*q+1)+1)];exact jW _
 have c:bC (4*q+1)=(2*q) ^^^ 3988292384:=by rw[(ah:4*q+1=2*(2*q)+1)];exact jW _
 have d:bC (2*q)=q:=by exact jV _
 unfold fZ;rw[a];rw[b];rw[jI,c,show bC 3988292384=1994146192 by decide];rw[oV,show 3988292384 ^^^ 1994146192=2607071920 by decide];rw[jI,d,show bC 2607071920=1303535960 by decide]
def aAE(q:Nat):fZ (16*q+7)=q ^^^ 1342533948:=by
 have a:bC (16*q+7)=(8*q+3) ^^^ 3988292384:=by rw[(ah:16*q+7=2*(8*q+3)+1)];exact jW _
 have b:bC (8*q+3)=(4*q+1) ^^^ 3988292384:=by rw[(ah:8*q+3=2*(4*q+1)+1)];exact jW _
 have c:bC (4*q+1)=(2*q) ^^^ 3988292384:=by rw[(ah:4*q+1=2*(2*q)+1)];exact jW _
 have d:bC (2*q)=q:=by exact jV _
 unfold fZ;rw[a];rw[jI,b,show bC 3988292384=1994146192 by decide];rw[oV,show 3988292384 ^^^ 1994146192=2607071920 by decide];rw[jI,c,show bC 2607071920=1303535960 by decide];rw[oV,show 3988292384 ^^^ 1303535960=2685067896 by decide];rw[jI,d,show bC 2685067896=1342533948 by decide]
def aAF(q:Nat):fZ (16*q+8)=q ^^^ 3988292384:=by
 have a:bC (16*q+8)=8*q+4:=by rw[(ah:16*q+8=2*(8*q+4))];exact jV _
 have b:bC (8*q+4)=4*q+2:=by rw[(ah:8*q+4=2*(4*q+2))];exact jV _
 have c:bC (4*q+2)=2*q+1:=by rw[(ah:4*q+2=2*(2*q+1))];exact jV _
 have d:bC (2*q+1)=q ^^^ 3988292384:=by exact jW _
 unfold fZ;rw[a];rw[b];rw[c];rw[d]
def aAG(q:Nat):fZ (16*q+9)=q ^^^ 4027552580:=by
 have a:bC (16*q+9)=(8*q+4) ^^^ 3988292384:=by rw[(ah:16*q+9=2*(8*q+4)+1)];exact jW _
 have b:bC (8*q+4)=4*q+2:=by rw[(ah:8*q+4=2*(4*q+2))];exact jV _
 have c:bC (4*q+2)=2*q+1:=by rw[(ah:4*q+2=2*(2*q+1))];exact jV _
 have d:bC (2*q+1)=q ^^^ 3988292384:=by exact jW _
 unfold fZ;rw[a];rw[jI,b,show bC 3988292384=1994146192 by decide];rw[jI,c,show bC 1994146192=997073096 by decide];rw[jI,d,show bC 997073096=498536548 by decide];rw[oV,show 3988292384 ^^^ 498536548=4027552580 by decide]
def aAt(q:Nat):fZ (16*q+10)=q ^^^ 3604390888:=by
 have a:bC (16*q+10)=8*q+5:=by rw[(ah:16*q+10=2*(8*q+5))];exact jV _
 have b:bC (8*q+5)=(4*q+2) ^^^ 3988292384:=by rw[(ah:8*q+5=2*(4*q+2)+1)];exact jW _
 have c:bC (4*q+2)=2*q+1:=by rw[(ah:4*q+2=2*(2*q+1))];exact jV _
 have d:bC (2*q+1)=q ^^^ 3988292384:=by exact jW _
 unfold fZ;rw[a];rw[b];rw[jI,c,show bC 3988292384=1994146192 by decide];rw[jI,d,show bC 1994146192=997073096 by decide];rw[oV,show 3988292384 ^^^ 997073096=3604390888 by decide]
def aAu(q:Nat):fZ (16*q+11)=q ^^^ 3412177804:=by
 have a:bC (16*q+11)=(8*q+5) ^^^ 3988292384:=by rw[(ah:16*q+11=2*(8*q+5)+1)];exact jW _
 have b:bC (8*q+5)=(4*q+2) ^^^ 3988292384:=by rw[(ah:8*q+5=2*(4*q+2)+1)];exact jW _
 have c:bC (4*q+2)=2*q+1:=by rw[(ah:4*q+2=2*(2*q+1))];exact jV _
 have d:bC (2*q+1)=q ^^^ 3988292384:=by exact jW _
 unfold fZ;rw[a];rw[jI,b,show bC 3988292384=1994146192 by decide];rw[oV,show 3988292384 ^^^ 1994146192=2607071920 by decide];rw[jI,c,show bC 2607071920=1303535960 by decide];rw[jI,d,show bC 1303535960=651767980 by decide];rw[oV,show 3988292384 ^^^ 651767980=3412177804 by decide]
def aAv(q:Nat):fZ (16*q+12)=q ^^^ 2607071920:=by
 have a:bC (16*q+12)=8*q+6:=by rw[(ah:16*q+12=2*(8*q+6))];exact jV _
 have b:bC (8*q+6)=4*q+3:=by rw[(ah:8*q+6=2*(4*q+3))];exact jV _
 have c:bC (4*q+3)=(2*q+1) ^^^ 3988292384:=by rw[(ah:4*q+3=2*(2*q+1)+1)];exact jW _
 have d:bC (2*q+1)=q ^^^ 3988292384:=by exact jW _
 unfold fZ;rw[a];rw[b];rw[c];rw[jI,d,show bC 3988292384=1994146192 by decide];rw[oV,show 3988292384 ^^^ 1994146192=2607071920 by decide]
def aAw(q:Nat):fZ (16*q+13)=q ^^^ 2262029012:=by
 have a:bC (16*q+13)=(8*q+6) ^^^ 3988292384:=by rw[(ah:16*q+13=2*(8*q+6)+1)];exact jW _
 have b:bC (8*q+6)=4*q+3:=by rw[(ah:8*q+6=2*(4*q+3))];exact jV _
 have c:bC (4*q+3)=(2*q+1) ^^^ 3988292384:=by rw[(ah:4*q+3=2*(2*q+1)+1)];exact jW _
 have d:bC (2*q+1)=q ^^^ 3988292384:=by exact jW _
 unfold fZ;rw[a];rw[jI,b,show bC 3988292384=1994146192 by decide];rw[jI,c,show bC 1994146192=997073096 by decide];rw[oV,show 3988292384 ^^^ 997073096=3604390888 by decide];rw[jI,d,show bC 3604390888=1802195444 by decide];rw[oV,show 3988292384 ^^^ 1802195444=2262029012 by decide]
def aAx(q:Nat):fZ (16*q+14)=q ^^^ 2685067896:=by
 have a:bC (16*q+14)=8*q+7:=by rw[(ah:16*q+14=2*(8*q+7))];exact jV _
 have b:bC (8*q+7)=(4*q+3) ^^^ 3988292384:=by rw[(ah:8*q+7=2*(4*q+3)+1)];exact jW _
 have c:bC (4*q+3)=(2*q+1) ^^^ 3988292384:=by rw[(ah:4*q+3=2*(2*q+1)+1)];exact jW _
 have d:bC (2*q+1)=q ^^^ 3988292384:=by exact jW _
 unfold fZ;rw[a];rw[b];rw[jI,c,show bC 3988292384=1994146192 by decide];rw[oV,show 3988292384 ^^^ 1994146192=2607071920 by decide];rw[jI,d,show bC 2607071920=1303535960 by decide];rw[oV,show 3988292384 ^^^ 1303535960=2685067896 by decide]
def aAy(q:Nat):fZ (16*q+15)=q ^^^ 3183342108:=by
 have a:bC (16*q+15)=(8*q+7) ^^^ 3988292384:=by rw[(ah:16*q+15=2*(8*q+7)+1)];exact jW _
 have b:bC (8*q+7)=(4*q+3) ^^^ 3988292384:=by rw[(ah:8*q+7=2*(4*q+3)+1)];exact jW _
 have c:bC (4*q+3)=(2*q+1) ^^^ 3988292384:=by rw[(ah:4*q+3=2*(2*q+1)+1)];exact jW _
 have d:bC (2*q+1)=q ^^^ 3988292384:=by exact jW _
 unfold fZ;rw[a];rw[jI,b,show bC 3988292384=1994146192 by decide];rw[oV,show 3988292384 ^^^ 1994146192=2607071920 by decide];rw[jI,c,show bC 2607071920=1303535960 by decide];rw[oV,show 3988292384 ^^^ 1303535960=2685067896 by decide];rw[jI,d,show bC 2685067896=1342533948 by decide];rw[oV,show 3988292384 ^^^ 1342533948=3183342108 by decide]
def BR(b:aW)(s:fP):Option aK:=match placeOf s.name with
 |some p=>if(dH b p).1=0/\(dH b p).2=[]then none else some (.mk s.tag (fO p) (dH b p).1 (dH b p).2 [])
 |none=>none
def qA(b:aW)(l:List fP):List aK:=l.filterMap (BR b)
def U6(b:aW)(s:fP)(l:List fP):qA b (s::l)=(match BR b s with|some f=>[f]|none=>[])++qA b l:=by unfold qA;rw[List.filterMap_cons];cases BR b s<;>rfl
def aif{b:aW}{v:List aK}(F:ru b v)(c:List fP)(I:c.length<=1000)(o:∀s∈c,placeOf s.name≠none/\s.use=acw s.name):∀(m i:Nat)(a:List aK),i+m=c.length->a.length+m<=2000->
 TT.lim 97 ([.l (aI a),.l (c.map fM),.zq c.length,.zq i]++(iH b (aI v)).cells)=some [.zq 0,.l (aI (a++qA b (c.drop i)))]
 |0,i,a,hi,J=>by have h:¬((i:Int)<c.length):=ah;have e:c.drop i=[]:=gJ;rw[e];have:qA b []=[]:=rfl;rw[this,qZ,dS];simp only[bI,bf];refine aB ?_;simp[h]
 |m+1,i,a,hi,J=>by
  have g:i<c.length:=ah;have h:((i:Int)<c.length):=ah;obtain⟨p,y⟩:∃p,placeOf c[i].name=some p:=by
   cases e:placeOf c[i].name with
   |some p=>exact⟨p,rfl⟩
   |none=>exact absurd e (o _ (iq g)).1
  have w:=auX F y;have q:c.drop i=c[i]::c.drop (i+1):=gW g;have j:(c.map fM)[i]? =some (fM c[i]):=by rw[jf,bT g];rfl
  have d:((i+1:Nat):Int)=(i:Int)+1:=ah;have z:=bD ((i:Int)+1);rw[q,U6];have G:BR b c[i]=if(dH b p).1=0/\(dH b p).2=[]then none else some (.mk c[i].tag (fO p) (dH b p).1 (dH b p).2 []):=by unfold BR;rw[y]
  rw[G];have f:=aif F c I o m (i+1);generalize c[i]=s at *;clear G q y;have H:=oK a;have fn:aI []=[]:=by simp only[aI]
  have k:(qO s.tag (fO p) (dH b p).1 (dH b p).2 []).fQ 5=true:=rfl;have l:GV.g [.zu s.tag,.zq (fO p),.zu (dH b p).1,.s (dH b p).2,.l []]=qO s.tag (fO p) (dH b p).1 (dH b p).2 []:=by unfold qO;rw[fn]
  have B:2*((aI a).length+1)*64<=281474976710656/\(aI a).length+1<=281474976710656:=ah;by_cases x:(dH b p).1=0/\(dH b p).2=[]
  ·rw[au x];have f:=f a ah ah;rw[dS,d]at f;rw[dS];simp only[bI,bf]at f⊢;clear k l B H;obtain⟨L,M⟩:=x;rw[L,M]at w;generalize aI a=A,aI v=r,c.map fM=N,fO p=O at *;refine aB ?_;simp[h,j,kM,w,z,f]
  ·rw[aj x];have f:=f (a++[.mk s.tag (fO p) (dH b p).1 (dH b p).2 []]) ah (by rw[gu,E5];omega);have u:aI (a++[.mk s.tag (fO p) (dH b p).1 (dH b p).2 []])=aI a++[qO s.tag (fO p) (dH b p).1 (dH b p).2 []]:=by rw[Uh];simp only[aI,pq];rfl
   rw[dS,d,u,List.append_assoc]at f;rw[dS];simp only[bI,bf]at f⊢;generalize P:aI (a++.mk s.tag (fO p) (dH b p).1 (dH b p).2 []::qA b (c.drop (i+1)))=R at *;clear P u H;generalize qO s.tag (fO p) (dH b p).1 (dH b p).2 []=E,aI a=A,aI v=r,c.map fM=N at *;generalize fO p=O,dH b p=S at *;obtain⟨n,t⟩:=S;simp only at *;by_cases D:n=0
   ·have T:¬t=[]:=λe=>x ⟨D,e⟩;subst D;refine aB ?_;simp[h,j,kM,w,T,l,k,B,z,f]
   ·refine aB ?_;simp[h,j,kM,w,D,l,k,B,z,f]
def Tt:∀(l:List aK)(w:Nat)(a:Int),jT w a l=0->(∀f∈l,f.tag≠0/\f.tag<=4294967296/\Bz w f=0/\a<f.tag)/\l.Pairwise (λx y=>x.tag<y.tag)
 |[],w,a,_=>⟨aA,List.Pairwise.nil⟩
 |f::l,w,a,h=>by
  unfold jT at h;by_cases h1:f.tag=0
  ·rw[au h1]at h;exact absurd h aX
  rw[aj h1]at h;by_cases d:4294967296<f.tag
  ·rw[au d]at h;exact absurd h aX
  rw[aj d]at h;by_cases i:f.tag<=a
  ·rw[au i]at h;exact absurd h aX
  rw[aj i]at h;by_cases c:Bz w f=0;rotate_left
  ·rw[au c]at h;exact absurd h c
  rw[aj (λe=>e c)]at h;obtain⟨j,k⟩:=Tt l w f.tag h;refine⟨λg b=>?_,jm.2 ⟨λg b=>(j g b).2.2.2,k⟩⟩;rcases bJ.1 b with rfl|b
  ·exact⟨h1,ah,c,ah⟩
  ·obtain⟨m,n,o,p⟩:=j g b;exact⟨m,n,o,ah⟩
def Yo:∀(l:List aK)(w:Nat)(a:Int),(∀f∈l,f.tag≠0/\f.tag<=4294967296/\Bz w f=0/\a<f.tag)->l.Pairwise (λx y=>x.tag<y.tag)->jT w a l=0
 |[],w,a,_,_=>by unfold jT;rfl
 |f::l,w,a,h,b=>by obtain⟨q1,i,d,j⟩:=h f aA;rw[jm]at b;unfold jT;rw[aj q1,eX,eX,aj (λe=>e d)];refine Yo l w f.tag (λg c=>?_) b.2;obtain⟨r1,r2,r3,k⟩:=h g (by simp[c]);exact⟨r1,r2,r3,b.1 g c⟩
def aAm(k:Int):(yD k).Pairwise (λs t=>s.tag<t.tag)/\∀s∈yD k,1<=s.tag/\s.tag<=5:=by
 unfold yD;repeat' split
 all_goals first|(unfold sp1;decide)|(unfold sp2;decide)|(unfold EF;decide)|(unfold EG;decide)|(unfold EH;decide)|(unfold EI;decide)|(unfold EJ;decide)|(unfold EK;decide)|exact⟨List.Pairwise.nil,λs a=>by cases a⟩
def U5(k v:Int):(bU k v).Pairwise (λs t=>s.tag<t.tag)/\∀s∈bU k v,1<=s.tag/\s.tag<=5:=by obtain⟨a,b⟩:=aAm k;exact⟨a.sublist List.filter_sublist,λs c=>b s (Ky.1 c).1⟩
def U1{b:aW}{s:fP}{f:aK}(h:BR b s=some f):∃p,placeOf s.name=some p/\f=.mk s.tag (fO p) (dH b p).1 (dH b p).2 []/\¬((dH b p).1=0/\(dH b p).2=[]):=by
 unfold BR at h;cases c:placeOf s.name with
 |none=>rw[c]at h;cases h
 |some p=>
  rw[c]at h;simp only at h;by_cases a:(dH b p).1=0/\(dH b p).2=[]
  ·rw[au a]at h;cases h
  ·rw[aj a]at h;injection h with h
   exact⟨p,rfl,h.symm,a⟩
def U7{b:aW}{l:List fP}{f:aK}(h:f∈qA b l):∃s∈l,∃p,placeOf s.name=some p/\f=.mk s.tag (fO p) (dH b p).1 (dH b p).2 []/\¬((dH b p).1=0/\(dH b p).2=[]):=by unfold qA at h;obtain⟨s,a,c⟩:=List.mem_filterMap.1 h;exact⟨s,a,U1 c⟩
def ZW(b:aW):∀(l:List fP),l.Pairwise (λs t=>s.tag<t.tag)->(qA b l).Pairwise (λx y=>x.tag<y.tag)
 |[],_=>List.Pairwise.nil
 |s::l,h=>by
  rw[jm]at h;rw[U6];have c:=ZW b l h.2;cases d:BR b s with
  |none=>exact c
  |some f=>obtain⟨p,-,rfl,-⟩:=U1 d;refine jm.2 ⟨λg e=>?_,c⟩;obtain⟨i,a,j,-,rfl,-⟩:=U7 e;exact h.1 i a
def aBQ(b:aW)(p:Pl):(fO p=0/\(dH b p).2=[])\/(fO p=1/\(dH b p).1=0):=by cases p<;>simp[fO,dH]
def ag2(b:aW)(k v:Int):jT 0 0 (qA b (bU k v))=0:=by
 obtain⟨d,e⟩:=U5 k v;refine Yo _ 0 0 (λf g=>?_) (ZW b _ d);obtain⟨s,h,p,-,rfl,-⟩:=U7 g;have:=e s h;refine⟨by show s.tag≠0;omega,by show s.tag<=_;omega,?_,by show 0<s.tag;omega⟩;unfold Bz;rcases aBQ b p with⟨a,c⟩|⟨a,c⟩
 ·rw[a,c];simp
 ·rw[a,c];simp
def Short(b:aW):Prop:=b.name.length<=600/\b.region.length<=600/\b.note.length<=600
def akq{b:aW}{a:List aK}(h:ru b a)(c:Short b)(p:Pl):(0<=(dH b p).1/\(dH b p).1<18446744073709551616)/\(dH b p).2.length<=100000000:=by
 have q:=h.body;obtain⟨w1,e,f⟩:=c;cases p with
 |rem=>have g:=q.remaining;exact⟨by simp only[dH];unfold zz;split<;>omega,by simp[dH]⟩
 |allow=>refine⟨?_,by simp[dH]⟩;simp only[dH];split<;>omega
 |name=>exact⟨by simp[dH],by simp only[dH];omega⟩
 |region=>exact⟨by simp[dH],by simp only[dH];omega⟩
 |note=>exact⟨by simp[dH],by simp only[dH];omega⟩
 |d=>
  refine⟨by simp[dH],?_⟩;simp only[dH];have:=ZQ h.d;split
  ·simp
  ·omega
 |t=>
  refine⟨by simp[dH],?_⟩;simp only[dH];have:=avT b.t h.t;split
  ·simp
  ·unfold Qu;split
   ·simp
   ·simp only;omega
 |num k=>refine⟨?_,by simp[dH]⟩;simp only[dH];unfold Gu;split<;>first|exact q.id|exact q.min|exact q.max|exact q.chosen|exact q.flags|exact q.cost|exact q.priority|exact q.deadline|exact q.retry|exact q.epoch|exact q.base|exact q.digest|exact q.lag|exact q.code|exact q.want
def agZ{b:aW}{c:List aK}(h:ru b c)(d:Short b)(k v:Int):dX (qA b (bU k v)):=Ui λf e=>by
 obtain⟨s,g,p,-,rfl,-⟩:=U7 e;have i:=(U5 k v).2 s g;have a:=akq h d p;have j:0<=fO p/\fO p<=1:=by cases p<;>simp[fO]
 simp only[uK,dX];refine⟨⟨?_,?_,?_,?_,a.1.1,a.1.2,a.2,?_⟩,trivial⟩;all_goals first|omega|simp
def agY(b:aW)(k v:Int):(qA b (bU k v)).length<=8:=kR (List.length_filterMap_le _ _) (Gg k v)
def ag0(b:aW):∀l:List fP,dA (qA b l)<=2*l.length
 |[]=>by simp[qA,dA]
 |s::l=>by
  rw[U6];have c:=ag0 b l;cases a:BR b s with
  |none=>simp only[bf,iF];omega
  |some f=>obtain⟨p,-,rfl,-⟩:=U1 a;simp only[bI,bf,dA,uZ,iF];omega
def ag1{b:aW}{c:List aK}(h:ru b c)(a:Short b):∀l:List fP,wL (qA b l)<=100000040*l.length
 |[]=>by simp[qA,wL]
 |s::l=>by
  rw[U6];have e:=ag1 h a l;cases d:BR b s with
  |none=>simp only[bf,iF];omega
  |some f=>obtain⟨p,-,rfl,-⟩:=U1 d;have g:=(akq h a p).2;simp only[bI,bf,wL,wF,iF];omega
structure A8(b:aW)(fl:List aK):Prop where
 msg:ru b fl
 short:Short b
 sz:dA fl<=900000
 w:wL fl<=2000000000
def Tn{b:aW}{a:List aK}{v:Int}(h:je b a v=0):1<=v/\v<=3/\bU b.kind v≠[]/\jT 0 0 a=0/\∀f∈a,hasTag (bU b.kind v) f.tag=false:=by
 unfold je at h;by_cases j:v<1
 ·rw[au j]at h;exact absurd h aX
 rw[aj j]at h;by_cases k:3<v
 ·rw[au k]at h;exact absurd h aX
 rw[aj k]at h;by_cases d:bU b.kind v=[]
 ·rw[au d]at h;exact absurd h aX
 rw[aj d]at h;by_cases l:iM.all (λn=>BN (bU b.kind v) n ||uQ b n)=false
 ·rw[au l]at h;exact absurd h aX
 rw[aj l]at h;by_cases g:qC b (bU b.kind v)≠0
 ·rw[au g]at h;exact absurd h g
 rw[aj g]at h;by_cases i:Ie b≠0
 ·rw[au i]at h;exact absurd h i
 rw[aj i]at h;unfold Na at h;by_cases c:jT 0 0 a≠0
 ·rw[au c]at h;exact absurd h c
 rw[aj c]at h;by_cases m:a.any (λf=>hasTag (bU b.kind v) f.tag)=true
 ·rw[au m]at h;exact absurd h aX
 refine⟨ah,ah,d,by simpa using c,λf o=>?_⟩;cases e:hasTag (bU b.kind v) f.tag with
 |false=>rfl
 |true=>exact absurd (List.any_eq_true.2 ⟨f,o,e⟩) m
def adO{b:aW}{a:List aK}{v:Int}(h:je b a v=0):((qA b (bU b.kind v)++a).map aK.tag).Nodup:=by
 obtain⟨-,-,-,d,i⟩:=Tn h;have j:=ZW b _ (U5 b.kind v).1;have k:=(Tt a 0 0 d).2;rw[ng,List.nodup_append];have c:∀l:List aK,l.Pairwise (λx y=>x.tag<y.tag)->(l.map aK.tag).Nodup:=λl m=>by unfold List.Nodup;rw[List.pairwise_map];exact m.imp λh e=>ah
 refine⟨c _ j,c _ k,λx n y o e=>?_⟩;obtain⟨f,q,rfl⟩:=qK.1 n;obtain⟨g,r,rfl⟩:=qK.1 o;obtain⟨s,t,p,-,rfl,-⟩:=U7 q;have:=i g r;unfold hasTag at this;have u:(bU b.kind v).any (λs=>decide (g.tag=s.tag))=true:=List.any_eq_true.2 ⟨s,t,DN (show g.tag=s.tag from e.symm)⟩;rw[u]at this;cases this
def Fh(b:aW)(a:List aK)(v:Int):List aK:=vT (qA b (bU b.kind v)) a
def Ud(b:aW)(a:List aK)(v:Int):List aK×Int:=if je b a v=0 then(Fh b a v,0)else([],je b a v)
structure akJ(l:List aK):Prop where
 ok:dX l
 len:l.length<=1000000
 w:wL l<=1000000000000
 chk:jT 0 0 l=0
def ald{b:aW}{c:List aK}{v:Int}(a:A8 b c)(h:je b c v=0):akJ (Fh b c v):=by
 obtain⟨-,-,-,g,k⟩:=Tn h;obtain⟨e,i⟩:=ahN (adO h);have m:c.length<=900000:=by
  have:∀l:List aK,l.length<=dA l:=λl=>by
   induction l with
   |nil=>simp[dA]
   |cons f l n=>simp only[iF,dA];omega
  have:=this c;have:=a.sz;omega
 have o:=agY b b.kind v;have p:=ag1 a.msg a.short (bU b.kind v);have j:=Gg b.kind v;have q:=a.w;refine⟨aqX e (aqW (agZ a.msg a.short _ _) a.msg.f8),?_,?_,?_⟩
 ·unfold Fh;rw[e.length_eq,gu];omega
 ·unfold Fh;rw[aB2 e,akz];have:100000040*(bU b.kind v).length<=100000040*8:=XH _ j;omega
 ·refine Yo _ 0 0 (λf d=>?_) i;rcases ny.1 (e.mem_iff.1 d)with d|d
  ·exact(Tt _ 0 0 (ag2 b b.kind v)).1 f d
  ·exact(Tt _ 0 0 g).1 f d
def atn{k v:Int}(h:bU k v≠[]):1<=k/\k<=8:=by
 by_cases c:1<=k/\k<=8
 ·exact c
 ·exfalso;apply h;unfold bU yD;rw[eX,eX,eX,eX,eX,eX,eX,eX];rfl
def av4{b:aW}{a:List aK}(d:A8 b a)(v:Int):TT.lim 52 [iH b (aI a),.zq v]=some [.l (aI (Ud b a v).1),.zq (Ud b a v).2]:=by
 have f:=aak b a v d.msg.body d.msg.t.few d.msg.f8 d.msg.len;unfold Ud;by_cases c:je b a v=0;rotate_left
 ·rw[aj c];have fn:aI []=[]:=by simp only[aI]
  rw[fn];generalize aI a=r,je b a v=p at *;refine aQ ?_;simp[kM,f,c]
 rw[au c];rw[c]at f;obtain⟨g,h,e,l,-⟩:=Tn c;have m:=U4 b.kind v g h (by have:=mt (ag3 b.kind v g h).2 e;omega)
 have i:=aif d.msg (bU b.kind v) (by have:=Gg b.kind v;omega) (atq b.kind v) (bU b.kind v).length 0 [] ah (by have:=Gg b.kind v;simp;omega);have fn:aI []=[]:=by simp only[aI]
 rw[dD,bf,dS,fn]at i;simp only[bI,bf,qX]at i;have j:=ag0 b (bU b.kind v);have n:=Gg b.kind v;have o:=awG _ a (agZ d.msg d.short b.kind v) d.msg.f8 (by have:=agY b b.kind v;omega) d.msg.len (by have:=d.sz;omega) (ag2 b b.kind v) l (adO c);have k:(((bU b.kind v).map fM).length:Int)=((bU b.kind v).length:Int):=by rw[iw]
 unfold Fh;generalize aI (vT (qA b (bU b.kind v)) a)=M,aI (qA b (bU b.kind v))=q,(bU b.kind v).map fM=s,((bU b.kind v).length:Int)=L,aI a=r at *;clear j n e l c d g h;refine aQ ?_;simp[kM,f,m,k,i,o]
def bytesV(b:aW)(a:List aK)(v:Int):Q0:=bg b.kind.toNat++dY (Fh b a v)
def xg(b:aW)(a:List aK)(v:Int):Q0×Int:=if je b a v=0 then(if 65536<(bytesV b a v).length then([],4)else(bytesV b a v,0))else([],je b a v)
def av2{b:aW}{a:List aK}(j:A8 b a)(v:Int):TT.lim 51 [iH b (aI a),.zq v]=some [.s (xg b a v).1,.zq (xg b a v).2]:=by
 have d:=av4 j v;unfold Ud at d;unfold xg;by_cases c:je b a v=0;rotate_left
 ·rw[aj c]at d⊢;generalize aI a=r,je b a v=t at *;refine aQ ?_;simp[kM,d,c]
 rw[au c]at d⊢;have f:=ald j c;have g:=aB7 (Fh b a v) f.ok f.len f.w f.chk;obtain⟨-,-,h,-,-⟩:=Tn c;obtain⟨u,w⟩:=atn h;have k:=yA b.kind.toNat ah;have s:=nN (n:=b.kind.toNat) ah;rw[(ah:((b.kind.toNat:Nat):Int)=b.kind)]at k;have l:=jD (b.kind);unfold bytesV;rw[gu];clear f c j h;generalize Fh b a v=m,bg b.kind.toNat=V,aI a=r at *;generalize aI m=G,dY m=i at *;by_cases o:65536<i.length
 ·rw[au o]at g;rw[mW];refine aQ ?_;simp[kM,d,g]
 ·rw[aj o]at g;have p:(V.length:Int)+i.length<=9223372036854775807:=ah;by_cases q:65536<V.length+i.length
  ·have e:(65536:Int)<V.length+i.length:=ah;rw[au q];refine aQ ?_;simp[kM,d,g,l,k,e,p]
  ·have e:¬(65536:Int)<V.length+i.length:=ah;rw[aj q];refine aQ ?_;simp[kM,d,g,l,k,e,p]
def wrap32{n:Int}(h0:0<=n)(h1:n<4294967296):IntKind.u32.wrap n=n:=by
 have a:∀y:Int,IntKind.u32.wrap y=y%4294967296:=λy=>by simp[IntKind.wrap,IntKind.signed,IntKind.bits]
 rw[a];omega
def ofInt32(a:Nat)(b:a<4294967296):(BitVec.ofInt 32 (a:Int)).toNat=a:=by rw[tY];omega
def Xm{a b:Nat}(c:a<4294967296)(d:b<4294967296):a ^^^ b<4294967296:=Nat.xor_lt_two_pow (n:=32) c d
def x32(a b:Nat)(c:a<4294967296)(d:b<4294967296):bV .xor .u32 (a:Int) (b:Int)=some (.i .u32 ((a ^^^ b:Nat):Int)):=by
 show some (GV.i IntKind.u32 (IntKind.u32.wrap ((BitVec.ofInt 32 (a:Int) ^^^ BitVec.ofInt 32 (b:Int)).toNat:Int)))=_
 have e:=Xm c d;rw[BitVec.toNat_xor,ofInt32 a c,ofInt32 b d,wrap32 ah ah]
def alh(a:Nat)(b:a<4294967296):bV .and .u32 (a:Int) 15=some (.i .u32 ((a%16:Nat):Int)):=by
 have h:=ofInt32 15 aX;show some (GV.i IntKind.u32 (IntKind.u32.wrap ((BitVec.ofInt 32 (a:Int) &&& BitVec.ofInt 32 15).toNat:Int)))=_
 have e:a &&& 15=a%16:=adp a 4;rw[Xq,ofInt32 a b,show(BitVec.ofInt 32 15).toNat=15 from h,e,wrap32 ah ah]
def ajw(a:Nat):jQ .shr .u32 (a:Int) 4=some (.i .u32 ((a:Int)/16)):=by
 show some (GV.i IntKind.u32 ((a:Int).fdiv (2^4)))=_
 rw[EW _ aX];rfl
def Wu{r:Nat}(h:r<4294967296):bC r<4294967296:=by
 unfold bC;split
 ·exact Xm ah aX
 ·omega
def abZ{r:Nat}(h:r<4294967296):fZ r<4294967296:=Wu (Wu (Wu (Wu h)))
def nib(y:Nat)(f:y<4294967296):(bV .and .u32 (y:Int) 15=some (.i .u32 0)/\bV .xor .u32 ((y:Int)/16) 0=some (.i .u32 (fZ y:Nat)))\/(bV .and .u32 (y:Int) 15=some (.i .u32 1)/\bV .xor .u32 ((y:Int)/16) 498536548=some (.i .u32 (fZ y:Nat)))\/(bV .and .u32 (y:Int) 15=some (.i .u32 2)/\bV .xor .u32 ((y:Int)/16) 997073096=some (.i .u32 (fZ y:Nat)))\/(bV .and .u32 (y:Int) 15=some (.i .u32 3)/\bV .xor .u32 ((y:Int)/16) 651767980=some (.i .u32 (fZ y:Nat)))\/(bV .and .u32 (y:Int) 15=some (.i .u32 4)/\bV .xor .u32 ((y:Int)/16) 1994146192=some (.i .u32 (fZ y:Nat)))\/(bV .and .u32 (y:Int) 15=some (.i .u32 5)/\bV .xor .u32 ((y:Int)/16) 1802195444=some (.i .u32 (fZ y:Nat)))\/(bV .and .u32 (y:Int) 15=some (.i .u32 6)/\bV .xor .u32 ((y:Int)/16) 1303535960=some (.i .u32 (fZ y:Nat)))\/(bV .and .u32 (y:Int) 15=some (.i .u32 7)/\bV .xor .u32 ((y:Int)/16) 1342533948=some (.i .u32 (fZ y:Nat)))\/(bV .and .u32 (y:Int) 15=some (.i .u32 8)/\bV .xor .u32 ((y:Int)/16) 3988292384=some (.i .u32 (fZ y:Nat)))\/(bV .and .u32 (y:Int) 15=some (.i .u32 9)/\bV .xor .u32 ((y:Int)/16) 4027552580=some (.i .u32 (fZ y:Nat)))\/(bV .and .u32 (y:Int) 15=some (.i .u32 10)/\bV .xor .u32 ((y:Int)/16) 3604390888=some (.i .u32 (fZ y:Nat)))\/(bV .and .u32 (y:Int) 15=some (.i .u32 11)/\bV .xor .u32 ((y:Int)/16) 3412177804=some (.i .u32 (fZ y:Nat)))\/(bV .and .u32 (y:Int) 15=some (.i .u32 12)/\bV .xor .u32 ((y:Int)/16) 2607071920=some (.i .u32 (fZ y:Nat)))\/(bV .and .u32 (y:Int) 15=some (.i .u32 13)/\bV .xor .u32 ((y:Int)/16) 2262029012=some (.i .u32 (fZ y:Nat)))\/(bV .and .u32 (y:Int) 15=some (.i .u32 14)/\bV .xor .u32 ((y:Int)/16) 2685067896=some (.i .u32 (fZ y:Nat)))\/(bV .and .u32 (y:Int) 15=some (.i .u32 15)/\bV .xor .u32 ((y:Int)/16) 3183342108=some (.i .u32 (fZ y:Nat))):=by
 have b:=alh y f;have c:∀T:Nat,T<4294967296->bV .xor .u32 ((y/16:Nat):Int) (T:Int)=some (.i .u32 ((y/16 ^^^ T:Nat):Int)):=λT g=>x32 _ T ah g;have d:y%16=0\/y%16=1\/y%16=2\/y%16=3\/y%16=4\/y%16=5\/y%16=6\/y%16=7\/y%16=8\/y%16=9\/y%16=10\/y%16=11\/y%16=12\/y%16=13\/y%16=14\/y%16=15:=ah;rcases d with h|h|h|h|h|h|h|h|h|h|h|h|h|h|h|h
 ·refine .inl ⟨?_,?_⟩
  ·rw[b,h];rfl
  ·have e:=aAr (y/16);rw[(ah:16*(y/16)=y)]at e;rw[e];have a:((y/16:Nat):Int)=(y:Int)/16:=ah;rw[<-a];exact c 0 aX
 ·refine .inr (.inl ⟨?_,?_⟩)
  ·rw[b,h];rfl
  ·have e:=aAs (y/16);rw[(ah:16*(y/16)+1=y)]at e;rw[e];have a:((y/16:Nat):Int)=(y:Int)/16:=ah;rw[<-a];exact c 498536548 aX
 ·refine .inr (.inr (.inl ⟨?_,?_⟩))
  ·rw[b,h];rfl
  ·have e:=aAz (y/16);rw[(ah:16*(y/16)+2=y)]at e;rw[e];have a:((y/16:Nat):Int)=(y:Int)/16:=ah;rw[<-a];exact c 997073096 aX
 ·refine .inr (.inr (.inr (.inl ⟨?_,?_⟩)))
  ·rw[b,h];rfl
  ·have e:=aAA (y/16);rw[(ah:16*(y/16)+3=y)]at e;rw[e];have a:((y/16:Nat):Int)=(y:Int)/16:=ah;rw[<-a];exact c 651767980 aX
 ·refine .inr (.inr (.inr (.inr (.inl ⟨?_,?_⟩))))
  ·rw[b,h];rfl
  ·have e:=aAB (y/16);rw[(ah:16*(y/16)+4=y)]at e;rw[e];have a:((y/16:Nat):Int)=(y:Int)/16:=ah;rw[<-a];exact c 1994146192 aX
 ·refine .inr (.inr (.inr (.inr (.inr (.inl ⟨?_,?_⟩)))))
  ·rw[b,h];rfl
  ·have e:=aAC (y/16);rw[(ah:16*(y/16)+5=y)]at e;rw[e];have a:((y/16:Nat):Int)=(y:Int)/16:=ah;rw[<-a];exact c 1802195444 aX
 ·refine .inr (.inr (.inr (.inr (.inr (.inr (.inl ⟨?_,?_⟩))))))
  ·rw[b,h];rfl
  ·have e:=aAD (y/16);rw[(ah:16*(y/16)+6=y)]at e;rw[e];have a:((y/16:Nat):Int)=(y:Int)/16:=ah;rw[<-a];exact c 1303535960 aX
 ·refine .inr (.inr (.inr (.inr (.inr (.inr (.inr (.inl ⟨?_,?_⟩)))))))
  ·rw[b,h];rfl
  ·have e:=aAE (y/16);rw[(ah:16*(y/16)+7=y)]at e;rw[e];have a:((y/16:Nat):Int)=(y:Int)/16:=ah;rw[<-a];exact c 1342533948 aX
 ·refine .inr (.inr (.inr (.inr (.inr (.inr (.inr (.inr (.inl ⟨?_,?_⟩))))))))
  ·rw[b,h];rfl
  ·have e:=aAF (y/16);rw[(ah:16*(y/16)+8=y)]at e;rw[e];have a:((y/16:Nat):Int)=(y:Int)/16:=ah;rw[<-a];exact c 3988292384 aX
 ·refine .inr (.inr (.inr (.inr (.inr (.inr (.inr (.inr (.inr (.inl ⟨?_,?_⟩)))))))))
  ·rw[b,h];rfl
  ·have e:=aAG (y/16);rw[(ah:16*(y/16)+9=y)]at e;rw[e];have a:((y/16:Nat):Int)=(y:Int)/16:=ah;rw[<-a];exact c 4027552580 aX
 ·refine .inr (.inr (.inr (.inr (.inr (.inr (.inr (.inr (.inr (.inr (.inl ⟨?_,?_⟩))))))))))
  ·rw[b,h];rfl
  ·have e:=aAt (y/16);rw[(ah:16*(y/16)+10=y)]at e;rw[e];have a:((y/16:Nat):Int)=(y:Int)/16:=ah;rw[<-a];exact c 3604390888 aX
 ·refine .inr (.inr (.inr (.inr (.inr (.inr (.inr (.inr (.inr (.inr (.inr (.inl ⟨?_,?_⟩)))))))))))
  ·rw[b,h];rfl
  ·have e:=aAu (y/16);rw[(ah:16*(y/16)+11=y)]at e;rw[e];have a:((y/16:Nat):Int)=(y:Int)/16:=ah;rw[<-a];exact c 3412177804 aX
 ·refine .inr (.inr (.inr (.inr (.inr (.inr (.inr (.inr (.inr (.inr (.inr (.inr (.inl ⟨?_,?_⟩))))))))))))
  ·rw[b,h];rfl
  ·have e:=aAv (y/16);rw[(ah:16*(y/16)+12=y)]at e;rw[e];have a:((y/16:Nat):Int)=(y:Int)/16:=ah;rw[<-a];exact c 2607071920 aX
 ·refine .inr (.inr (.inr (.inr (.inr (.inr (.inr (.inr (.inr (.inr (.inr (.inr (.inr (.inl ⟨?_,?_⟩)))))))))))))
  ·rw[b,h];rfl
  ·have e:=aAw (y/16);rw[(ah:16*(y/16)+13=y)]at e;rw[e];have a:((y/16:Nat):Int)=(y:Int)/16:=ah;rw[<-a];exact c 2262029012 aX
 ·refine .inr (.inr (.inr (.inr (.inr (.inr (.inr (.inr (.inr (.inr (.inr (.inr (.inr (.inr (.inl ⟨?_,?_⟩))))))))))))))
  ·rw[b,h];rfl
  ·have e:=aAx (y/16);rw[(ah:16*(y/16)+14=y)]at e;rw[e];have a:((y/16:Nat):Int)=(y:Int)/16:=ah;rw[<-a];exact c 2685067896 aX
 ·refine .inr (.inr (.inr (.inr (.inr (.inr (.inr (.inr (.inr (.inr (.inr (.inr (.inr (.inr (.inr (⟨?_,?_⟩)))))))))))))))
  ·rw[b,h];rfl
  ·have e:=aAy (y/16);rw[(ah:16*(y/16)+15=y)]at e;rw[e];have a:((y/16:Nat):Int)=(y:Int)/16:=ah;rw[<-a];exact c 3183342108 aX
def OB(r c:Nat):Nat:=fZ (fZ (r ^^^ c))
def aeb{r c:Nat}(a:r<4294967296)(b:c<256):OB r c<4294967296:=abZ (abZ (Xm a ah))
def ND(r:Nat)(s:Q0):Nat:=s.foldl (λr c=>OB r c.toNat) r
def ajP:∀(s:Q0)(r:Nat),r<4294967296->ND r s<4294967296
 |[],r,h=>h
 |c::s,r,h=>ajP s _ (aeb h (by have:=c.toNat_lt;omega))
set_option maxHeartbeats 8000000 in
def avz(r:Nat)(j:r<4294967296)(c:UInt8)(s:Q0)(k l m:GV)(L:Int)(i:Nat)(f:Q1)(h:(i:Int)<L)(g:s[i]? =some c)(q:IntKind.i64.wrap ((i:Int)+1)=(i:Int)+1)
 (o:TT.lim 119 [.i .u32 (OB r c.toNat:Nat),.s s,k,l,m,.zq L,.zq ((i:Int)+1),.i .u32 0,.i .u32 498536548,.i .u32 997073096,.i .u32 651767980,.i .u32 1994146192,.i .u32 1802195444,.i .u32 1303535960,.i .u32 1342533948,.i .u32 3988292384,.i .u32 4027552580,.i .u32 3604390888,.i .u32 3412177804,.i .u32 2607071920,.i .u32 2262029012,.i .u32 2685067896,.i .u32 3183342108]=some f):TT.lim 119 [.i .u32 (r:Nat),.s s,k,l,m,.zq L,.zq i,.i .u32 0,.i .u32 498536548,.i .u32 997073096,.i .u32 651767980,.i .u32 1994146192,.i .u32 1802195444,.i .u32 1303535960,.i .u32 1342533948,.i .u32 3988292384,.i .u32 4027552580,.i .u32 3604390888,.i .u32 3412177804,.i .u32 2607071920,.i .u32 2262029012,.i .u32 2685067896,.i .u32 3183342108]=some f:=by
 have D:=c.toNat_lt;have t:=wrap32 (n:=(c.toNat:Int)) ah ah;have X:=x32 r c.toNat j ah;have p:=Xm j (ah:c.toNat<4294967296);unfold OB at o;generalize r ^^^ c.toNat=x at *;have u:=ajw x;have v:=abZ p;have w:=nib x p;generalize fZ x=y at *;have A:=ajw y;have B:=nib y v;generalize fZ y=z at *;rcases w with⟨a,b⟩|⟨a,b⟩|⟨a,b⟩|⟨a,b⟩|⟨a,b⟩|⟨a,b⟩|⟨a,b⟩|⟨a,b⟩|⟨a,b⟩|⟨a,b⟩|⟨a,b⟩|⟨a,b⟩|⟨a,b⟩|⟨a,b⟩|⟨a,b⟩|⟨a,b⟩
 all_goals as_aux_lemma=>
  refine aB ?_;simp -implicitDefEqProofs[h,g,t,X,a,u,b];rcases B with⟨d,e⟩|⟨d,e⟩|⟨d,e⟩|⟨d,e⟩|⟨d,e⟩|⟨d,e⟩|⟨d,e⟩|⟨d,e⟩|⟨d,e⟩|⟨d,e⟩|⟨d,e⟩|⟨d,e⟩|⟨d,e⟩|⟨d,e⟩|⟨d,e⟩|⟨d,e⟩
  all_goals simp -implicitDefEqProofs[d,A,e,q,o]
def ah5(s:Q0)(n:s.length<=100000000)(c d f:GV):∀(m i:Nat)(r:Nat),i+m=s.length->r<4294967296->
 TT.lim 119 [.i .u32 (r:Nat),.s s,c,d,f,.zq s.length,.zq i,.i .u32 0,.i .u32 498536548,.i .u32 997073096,.i .u32 651767980,.i .u32 1994146192,.i .u32 1802195444,.i .u32 1303535960,.i .u32 1342533948,.i .u32 3988292384,.i .u32 4027552580,.i .u32 3604390888,.i .u32 3412177804,.i .u32 2607071920,.i .u32 2262029012,.i .u32 2685067896,.i .u32 3183342108]=some [.zq 0,.i .u32 (ND r (s.drop i):Nat)]
 |0,i,r,hi,g=>by
  have e:s.drop i=[]:=gJ;have h:¬((i:Int)<s.length):=ah;rw[e];show _=some [GV.zq 0,.i .u32 (r:Nat)]
  refine aB ?_;simp[h]
 |m+1,i,r,hi,g=>by have b:i<s.length:=ah;have j:s.drop i=s[i]::s.drop (i+1):=gW b;have k:s[i]? =some s[i]:=bT b;have a:((i+1:Nat):Int)=(i:Int)+1:=ah;have o:=bD ((i:Int)+1);have l:=ah5 s n c d f m (i+1) (OB r s[i].toNat) ah (aeb g (by have:=s[i].toNat_lt;omega));rw[a]at l;rw[j];exact avz r g s[i] s c d f s.length i _ ah k o l
def ahX(a:Nat)(b:a<4294967296):bV .xor .u32 4294967295 (a:Int)=some (.i .u32 ((4294967295-a:Nat):Int)):=by
 show some (GV.i IntKind.u32 (IntKind.u32.wrap ((BitVec.ofInt 32 4294967295 ^^^ BitVec.ofInt 32 (a:Int)).toNat:Int)))=_
 have e:BitVec.ofInt 32 4294967295=BitVec.allOnes 32:=aX;rw[e,BitVec.xor_comm,acS,acQ,ofInt32 a b,wrap32 ah ah]
def iR(s:Q0):Nat:=4294967295-ND 4294967295 s
def aeU(s:Q0):iR s<4294967296:=by unfold iR;omega
def aAQ:TT.lim 117 []=some [.g [.i .u32 0,.i .u32 498536548,.i .u32 997073096,.i .u32 651767980,.i .u32 1994146192,.i .u32 1802195444,.i .u32 1303535960,.i .u32 1342533948,.i .u32 3988292384,.i .u32 4027552580,.i .u32 3604390888,.i .u32 3412177804,.i .u32 2607071920,.i .u32 2262029012,.i .u32 2685067896,.i .u32 3183342108]]:=CG (Ds:=Ds) (f:=Wx) rfl rfl
def YE(s:Q0)(d:s.length<=100000000):TT.lim 115 [.l [.s s]]=some [.i .u32 (iR s:Nat)]:=by
 have a:=ah5 s d (.l [.s s]) (.zq 1) (.zq 0) s.length 0 4294967295 ah aX;rw[dD]at a;have a:TT.lim 119 [.i .u32 4294967295,.s s,.l [.s s],.zq 1,.zq 0,.zq s.length,.zq 0,.i .u32 0,.i .u32 498536548,.i .u32 997073096,.i .u32 651767980,.i .u32 1994146192,.i .u32 1802195444,.i .u32 1303535960,.i .u32 1342533948,.i .u32 3988292384,.i .u32 4027552580,.i .u32 3604390888,.i .u32 3412177804,.i .u32 2607071920,.i .u32 2262029012,.i .u32 2685067896,.i .u32 3183342108]=some [.zq 0,.i .u32 (ND 4294967295 s:Nat)]:=a;have b:=ajP s 4294967295 aX;have e:=ahX (ND 4294967295 s) b;unfold iR;have f:=aAQ;have w0:IntKind.i64.wrap 1=1:=aX;generalize ND 4294967295 s=Z at *;have g:TT.lim 118 [.i .u32 (Z:Nat),.l [.s s],.zq 1,.zq 1,.i .u32 0,.i .u32 498536548,.i .u32 997073096,.i .u32 651767980,.i .u32 1994146192,.i .u32 1802195444,.i .u32 1303535960,.i .u32 1342533948,.i .u32 3988292384,.i .u32 4027552580,.i .u32 3604390888,.i .u32 3412177804,.i .u32 2607071920,.i .u32 2262029012,.i .u32 2685067896,.i .u32 3183342108]=some [.zq 0,.i .u32 (Z:Nat)]:=by refine aB ?_;simp
 have h:TT.lim 118 [.i .u32 4294967295,.l [.s s],.zq 1,.zq 0,.i .u32 0,.i .u32 498536548,.i .u32 997073096,.i .u32 651767980,.i .u32 1994146192,.i .u32 1802195444,.i .u32 1303535960,.i .u32 1342533948,.i .u32 3988292384,.i .u32 4027552580,.i .u32 3604390888,.i .u32 3412177804,.i .u32 2607071920,.i .u32 2262029012,.i .u32 2685067896,.i .u32 3183342108]=some [.zq 0,.i .u32 (Z:Nat)]:=by refine aB ?_;simp[a,w0,g]
 have i:bV .xor .u32 4294967295 0=some (.i .u32 4294967295):=ahX 0 aX;have j:∀n:Int,WY .xor (some (.i .u32 n))=bV .xor .u32 4294967295 n:=λ_=>rfl;have c:TT.lim 116 [.i .u32 0,.l [.s s]]=some [.i .u32 (4294967295-Z:Nat)]:=by refine aQ ?_;simp[f,j,i,h,e]
 refine aQ ?_;simp[c]
def QW(n:Int):IntKind.u8.wrap n=n%256:=by simp[IntKind.wrap,IntKind.signed,IntKind.bits]
def le4(n:Nat):Q0:=[UInt8.ofNat (n%256),UInt8.ofNat (n/256%256),UInt8.ofNat (n/65536%256),UInt8.ofNat (n/16777216%256)]
def fG(p:Q0):Q0:=[81,70]++bg p.length++p++le4 (iR p)
def atD(n:Nat):mg [.i .u8 ((n:Int)%256),.i .u8 ((n:Int)/256%256),.i .u8 ((n:Int)/65536%256),.i .u8 ((n:Int)/16777216%256)]=some (le4 n):=by
 have a:∀(x:Int)(r:Q1),0<=x->x<256->mg (.i .u8 x::r)=(mg r).map (UInt8.ofNat x.toNat::·):=λx r b c=>by
  show(if _ then _ else _)=_
  rw[au ⟨b,c⟩]
 rw[a _ _ ah ah,a _ _ ah ah,a _ _ ah ah,a _ _ ah ah];show some _=_
 unfold le4;congr 5<;>omega
def az7(a:Nat):jQ .shr .u32 (a:Int) 8=some (.i .u32 ((a:Int)/256)):=by
 show some (GV.i IntKind.u32 ((a:Int).fdiv (2^8)))=_
 rw[EW _ aX];rfl
def az3(a:Nat):jQ .shr .u32 (a:Int) 16=some (.i .u32 ((a:Int)/65536)):=by
 show some (GV.i IntKind.u32 ((a:Int).fdiv (2^16)))=_
 rw[EW _ aX];rfl
def az5(a:Nat):jQ .shr .u32 (a:Int) 24=some (.i .u32 ((a:Int)/16777216)):=by
 show some (GV.i IntKind.u32 ((a:Int).fdiv (2^24)))=_
 rw[EW _ aX];rfl
def Xh(p:Q0)(r:p.length<=65536):TT.lim 114 [.s p]=some [.s (fG p),.zq 0]:=by have c:=YE p ah;have d:=aeU p;have e:=yA p.length ah;have f:=nN (n:=p.length) ah;have g:=jD ((p.length:Int));have h:¬(65536:Int)<p.length:=ah;have i:(2:Int)+(bg p.length).length<=9223372036854775807:=ah;have j:((bg p.length).length:Int)+1+1+p.length<=9223372036854775807:=ah;have k:((bg p.length).length:Int)+p.length+1+1+4<=9223372036854775807:=ah;unfold fG;have l:=atD (iR p);have m:(le4 (iR p)).length=4:=rfl;have s8:=az7 (iR p);have a:=az3 (iR p);have b:=az5 (iR p);generalize iR p=n,bg p.length=V at *;have w0:=QW (n:Int);have w1:=QW ((n:Int)/256);have o:=QW ((n:Int)/65536);have q:=QW ((n:Int)/16777216);generalize le4 n=s,(n:Int)%256=t,(n:Int)/256%256=u,(n:Int)/65536%256=v,(n:Int)/16777216%256=w at *;refine aQ ?_;simp -implicitDefEqProofs[-List.append_assoc,h,c,e,g,s8,a,b,w0,w1,o,q,l,m,i,j,k]
def FQ(b:aW)(a:List aK)(v:Int):(xg b a v).1.length<=65536:=by
 unfold xg;split
 ·split
  ·simp
  ·simp only;omega
 ·simp
