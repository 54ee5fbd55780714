/- What the trees compute: plain laws. -/
import Derived.Test.YtboioicpmmipfaaGreatDoorKJe4
set_option linter.all false
namespace Go.Proofs.YtboioicpmmipfaaGreatDoor
open Go Go.aP
set_option maxRecDepth 100000
namespace J
mutual
def QX:aK->List UInt8
 |.mk t y n s k=>aS (4*t+y).toNat++(if y=0 then aS n.toNat else if y=1 then aS s.length++s else aS (dK k).length++dK k)
def dK:List aK->List UInt8
 |[]=>[]
 |f::l=>QX f++dK l
end
mutual
def wF:aK->Nat
 |.mk _ _ _ s k=>s.length+40+wL k
def wL:List aK->Nat
 |[]=>0
 |f::l=>wF f+wL l
end
mutual
def IZ:aK->Prop
 |.mk t y n s k=>(1<=t/\t<=4294967296)/\((y=0/\s=[]/\k=[])\/(y=1/\n=0/\k=[])\/(y=2/\n=0/\s=[]))/\vk k
def vk:List aK->Prop
 |[]=>True
 |f::l=>IZ f/\vk l
end
def TP:∀{l:List aK},vk l->∀f∈l,IZ f
 |f::l,h,g,a=>by
  simp only[vk]at h;rcases bH.1 a with rfl|a
  ·exact h.1
  ·exact TP h.2 g a
def QF:∀(N:Nat)(l:List aK),dO l<N->fF l->∀w a,jS w a l=0->0<=a->vk l
 |0,l,h,_,_,_,_,_=>ah
 |N+1,[],_,_,_,_,_,_=>by simp only[vk]
 |N+1,.mk t y n s k::l,j,d,w,a,h,m=>by
  simp only[dO,xw]at j;simp only[fF,uX]at d;unfold jS at h;by_cases h1:(aK.mk t y n s k).tag=0
  ·rw[au h1]at h;exact absurd h aU
  rw[aj h1]at h;by_cases g:4294967296<(aK.mk t y n s k).tag
  ·rw[au g]at h;exact absurd h aU
  rw[aj g]at h;by_cases i:(aK.mk t y n s k).tag<=a
  ·rw[au i]at h;exact absurd h aU
  rw[aj i]at h;by_cases b:Az w (.mk t y n s k)=0;rotate_left
  ·rw[au b]at h;exact absurd h b
  rw[aj (λe=>e b)]at h;have h1:¬t=0:=h1;have g:¬4294967296<t:=g;have i:¬t<=a:=i;simp only[vk,IZ];refine⟨⟨ah,?_,?_⟩,QF N l ah d.2 w t h ah⟩
  ·simp only[Az]at b;split at b
   ·rename_i f
    split at b
    ·rename_i c;exact .inl ⟨f,c⟩
    ·cases b
   ·split at b
    ·rename_i f
     split at b
     ·rename_i c;exact .inr (.inl ⟨f,c⟩)
     ·cases b
    ·split at b
     ·rename_i f
      split at b
      ·rename_i c;exact .inr (.inr ⟨f,c⟩)
      ·cases b
     ·cases b
  ·simp only[Az]at b;split at b
   ·split at b
    ·rename_i c;rw[c.2];simp only[vk]
    ·cases b
   ·split at b
    ·split at b
     ·rename_i c;rw[c.2];simp only[vk]
     ·cases b
    ·split at b
     ·split at b
      ·split at b
       ·cases b
       ·exact QF N k ah d.1.2 _ _ b ah
      ·cases b
     ·cases b
def JZ:∀(N:Nat)(l:List aK),dO l<N->fF l->vk l->wL l<=1000000000000->(dK l).length<=wL l
 |0,l,h,_,_,_=>ah
 |N+1,[],_,_,_,_=>by simp[dK]
 |N+1,.mk t y n s k::l,c,b,a,d=>by
  simp only[dO,xw]at c;simp only[fF,uX]at b;simp only[vk,IZ]at a;simp only[wL,wF]at d⊢;have h1:=JZ N l ah b.2 a.2 ah;have e:=JZ N k ah b.1.2 a.1.2.2 ah;simp only[dK,QX,eP];have f:=nY (n:=(4*t+y).toNat) (by rcases a.1.2.1 with h|h|h<;>omega);have g:=nY (n:=n.toNat) ah;have i:=nY (n:=s.length) ah;have j:=nY (n:=(dK k).length) ah;split
  ·omega
  ·split
   ·rw[eP];omega
   ·rw[eP];omega
def aiE(t y:Int)(h:1<=t/\t<=4294967296)(j:0<=y/\y<4):kX .shl .u64 t 2=some (.zu (4*t))/\IntKind.u64.wrap y=y/\dA .or .u64 (4*t) y=some (.zu (4*t+y)):=by
 have a:∀y:Int,IntKind.u64.wrap y=y%18446744073709551616:=λy=>by simp[IntKind.wrap,IntKind.signed,IntKind.bits]
 have c:IntKind.u64.bits=64:=rfl;refine⟨?_,by rw[a];omega,?_⟩
 ·have d:kX .shl .u64 t 2=some (.zu (IntKind.u64.wrap (t*2^2))):=rfl;rw[d,a];congr 2;omega
 ·simp only[dA,a,c];obtain⟨T,rfl⟩:∃T:Nat,t=(T:Int):=⟨t.toNat,ah⟩
  obtain⟨Y,rfl⟩:∃Y:Nat,y=(Y:Int):=⟨y.toNat,ah⟩
  have e:(BitVec.ofInt 64 (4*(T:Int))).toNat=4*T:=by rw[wo];omega
  have f:(BitVec.ofInt 64 (Y:Int)).toNat=Y:=by rw[wo];omega
  have g:4*T |||Y=4*T+Y:=(anR (i:=2) (b:=Y) ah T).symm;show some (GV.i IntKind.u64 (((BitVec.ofInt 64 (4*(T:Int)) |||BitVec.ofInt 64 (Y:Int)).toNat:Int)%18446744073709551616))=_
  rw[aeF,e,f,g];congr 2;omega
def aaS{t y n:Int}{s:Q0}{k:List aK}(h:IZ (.mk t y n s k)):1<=t/\t<=4294967296/\0<=y/\y<3/\(y=0\/y=1\/y=2)/\vk k:=by simp only[IZ]at h;rcases h.2.1 with h1|h1|h1<;>exact⟨h.1.1,h.1.2,ah,ah,ah,h.2.2⟩
def adQ:∀(N:Nat)(l:List aK),dO l<N->fF l->vk l->l.length<=1000000->wL l<=1000000000000->TT.lim 122 [.l (aI l)]=some [.zq (dK l).length]
 |0,l,h,_,_,_,_=>ah
 |N+1,l,hN,w,x,M,hw=>by
  have g:=qP l;have loop:∀m i,i+m=l.length->∀b:Nat,b+wL (l.drop i)<=1000000000000->TT.lim 123 [.l (aI l),.zq b,.zq l.length,.zq i]=some [.zq 0,.zq ((b+(dK (l.drop i)).length:Nat):Int)]:=by
   intro m;induction m with
   |zero=>intro i hi b c;have z:l.drop i=[]:=iP;have h:¬((i:Int)<l.length):=ah;rw[z];simp only[dK,lQ,qg];refine aB ?_;simp[h]
   |succ m Q=>
    intro i hi b c;obtain⟨t,y,n,s,k,g1,D,g3,g4⟩:=Ib (l:=l) (i:=i) ah;have u:=Ic w _ g4;have R:=TP x _ g4;simp only[uX]at u;obtain⟨S,T,U,y2,V,O⟩:=aaS R;have W:=YH g4;simp only[xw]at W;rw[g3]at c⊢;simp only[wL,wF]at c;have X:=adQ N k ah u.2 O u.1.2.2.2.2.2.2.2 ah;have Y:=JZ (dO k+1) k ah u.2 O ah;obtain⟨E,F,G⟩:=aiE t y ⟨S,T⟩ ⟨U,ah⟩;have v:=Pj (4*t+y).toNat ah;have P:=Pj n.toNat ah;have Z:=Pj s.length ah;have v4:=Pj (dK k).length ah;have z1:=I8 (n:=(4*t+y).toNat) ah;have z2:=I8 (n:=n.toNat) ah;have z3:=I8 (n:=s.length) ah;have z4:=I8 (n:=(dK k).length) ah;rw[(ah:(((4*t+y).toNat:Nat):Int)=4*t+y)]at v;rw[(ah:((n.toNat:Nat):Int)=n)]at P;have j:((i+1:Nat):Int)=(i:Int)+1:=ah;have o:=bK ((i:Int)+1);have h:((i:Int)<l.length):=ah;have e:=λa ha=>Q (i+1) ah a ha;simp only[j]at e;have z:(aS (4*t+y).toNat).length=gu (4*t+y).toNat:=rfl;have e2:(aS n.toNat).length=gu n.toNat:=rfl;have e3:(aS s.length).length=gu s.length:=rfl;have e4:(aS (dK k).length).length=gu (dK k).length:=rfl;have u3:=jW ((s.length:Int));have u4:=jW (((dK k).length:Int));simp only[dK,QX,eP];rw[z];generalize gu (4*t+y).toNat=A at *;have w1:=bK ((b:Int)+A);rcases V with d|d|d
    ·rw[au d,e2];generalize gu n.toNat=B at *;have p:=bK ((b:Int)+A+B);have f:=e (b+A+B) ah;rw[(ah:((b+A+B:Nat):Int)=(b:Int)+A+B),(ah:b+A+B+(dK (l.drop (i+1))).length=b+(A+B+(dK (l.drop (i+1))).length))]at f;have q:(y=0)=True:=eq_true d;clear d;refine aB ?_;simp[h,D,q,E,F,G,v,P,w1,p,o,f]
    ·rw[bW,au d,eP,e3];generalize gu s.length=B at *;have p:=bK ((B:Int)+s.length);have H:=bK ((b:Int)+A+(B+s.length));have f:=e (b+A+(B+s.length)) ah;rw[(ah:((b+A+(B+s.length):Nat):Int)=(b:Int)+A+(B+s.length)),(ah:b+A+(B+s.length)+(dK (l.drop (i+1))).length=b+(A+(B+s.length)+(dK (l.drop (i+1))).length))]at f;have q:(y=0)=False:=eq_false ah;have I:(y=1)=True:=eq_true d;clear d;refine aB ?_;simp[h,D,q,I,E,F,G,v,Z,u3,w1,p,H,o,f]
    ·rw[bW,bW,eP,e4];generalize gu (dK k).length=B at *;generalize(dK k).length=C at *;have p:=bK ((B:Int)+C);have H:=bK ((b:Int)+A+(B+C));have f:=e (b+A+(B+C)) ah;rw[(ah:((b+A+(B+C):Nat):Int)=(b:Int)+A+(B+C)),(ah:b+A+(B+C)+(dK (l.drop (i+1))).length=b+(A+(B+C)+(dK (l.drop (i+1))).length))]at f;have q:(y=0)=False:=eq_false ah;have I:(y=1)=False:=eq_false ah;have q2:(y=2)=True:=eq_true d;clear d;refine aB ?_;simp[h,D,q,I,q2,E,F,G,v,X,v4,u4,w1,p,H,o,f]
  have L:=loop l.length 0 ah 0 (by rw[dY];omega);rw[dY,mW]at L;have r:TT.lim 123 [.l (aI l),.zq 0,.zq (aI l).length,.zq 0]=some [.zq 0,.zq ((dK l).length:Int)]:=by rw[g];exact L
  rw[g]at r;clear loop L;refine aW ?_;simp[g,r]
def JE(a b:Q0):dJ (a++b)=dJ a++dJ b:=by simp[dJ]
def anC:∀(N:Nat)(l:List aK),dO l<N->fF l->vk l->l.length<=1000000->∀B:Q0,B.length+wL l<=1000000000000->TT.lim 124 [.l (dJ B),.l (aI l)]=some [.zq 0,.l (dJ (B++dK l))]
 |0,l,h,_,_,_,_,_=>ah
 |N+1,l,hN,x,D,S,B,hB=>by
  have E:=qP l;have loop:∀m i,i+m=l.length->∀b:Q0,b.length+wL (l.drop i)<=1000000000000->TT.lim 125 [.l (dJ b),.l (aI l),.zq l.length,.zq i]=some [.zq 0,.l (dJ (b++dK (l.drop i)))]:=by
   intro m;induction m with
   |zero=>intro i hi b c;have U:l.drop i=[]:=iP;have h:¬((i:Int)<l.length):=ah;rw[U];simp only[dK,pY];refine aB ?_;simp[h]
   |succ m V=>
    intro i hi b c;obtain⟨t,y,n,s,k,g1,F,g3,g4⟩:=Ib (l:=l) (i:=i) ah;have p:=Ic x _ g4;have W:=TP D _ g4;simp only[uX]at p;obtain⟨X,Y,Z,y2,y3,G⟩:=aaS W;have hs:=YH g4;simp only[xw]at hs;rw[g3]at c⊢;simp only[wL,wF]at c;have hk:=adQ N k ah p.2 G p.1.2.2.2.2.2.2.2 ah;have aa:=JZ (dO k+1) k ah p.2 G ah;obtain⟨H,I,L⟩:=aiE t y ⟨X,Y⟩ ⟨Z,ah⟩;have w:=zY (4*t+y).toNat ah;have T:=zY n.toNat ah;have v3:=zY s.length ah;have v4:=zY (dK k).length ah;have z1:=nY (n:=(4*t+y).toNat) ah;have z2:=nY (n:=n.toNat) ah;have z3:=nY (n:=s.length) ah;have z4:=nY (n:=(dK k).length) ah;rw[(ah:(((4*t+y).toNat:Nat):Int)=4*t+y)]at w;rw[(ah:((n.toNat:Nat):Int)=n)]at T;have j:((i+1:Nat):Int)=(i:Int)+1:=ah;have o:=bK ((i:Int)+1);have h:((i:Int)<l.length):=ah;have e:=λa ha=>V (i+1) ah a ha;simp only[j]at e;have u3:=jW ((s.length:Int));have u4:=jW (((dK k).length:Int));have M:∀z:Q0,(dJ z).all (λg=>g.gV 1)=true:=λz=>by simp[dJ,GV.gV]
    have O:∀z:Q0,(dJ z).length=z.length:=λz=>by simp[dJ]
    simp only[dK,QX];rcases y3 with d|d|d
    ·rw[au d];have f:=e (b++aS (4*t+y).toNat++aS n.toNat) (by simp only[eP];omega);rw[show b++aS (4*t+y).toNat++aS n.toNat++dK (l.drop (i+1))=b++(aS (4*t+y).toNat++aS n.toNat++dK (l.drop (i+1))) by simp,JE,JE]at f;generalize aS (4*t+y).toNat=A,aS n.toNat=C at *;have q:2*(b.length+A.length)<=281474976710656/\b.length+A.length<=281474976710656:=ah;have r:2*(b.length+A.length+C.length)<=281474976710656/\b.length+A.length+C.length<=281474976710656:=ah;have u:(y=0)=True:=eq_true d;clear d;refine aB ?_;simp[-List.append_assoc,h,F,u,H,I,L,w,T,o,f,M,O,q,r]
    ·rw[bW,au d];have f:=e (b++aS (4*t+y).toNat++aS s.length++s) (by simp only[eP];omega);rw[show b++aS (4*t+y).toNat++aS s.length++s++dK (l.drop (i+1))=b++(aS (4*t+y).toNat++(aS s.length++s)++dK (l.drop (i+1))) by simp,JE,JE,JE]at f;generalize aS (4*t+y).toNat=A,aS s.length=C at *;have q:2*(b.length+A.length)<=281474976710656/\b.length+A.length<=281474976710656:=ah;have r:2*(b.length+A.length+C.length)<=281474976710656/\b.length+A.length+C.length<=281474976710656:=ah;have c3:2*(b.length+A.length+C.length+s.length)<=281474976710656/\b.length+A.length+C.length+s.length<=281474976710656:=ah;have u:(y=0)=False:=eq_false ah;have P:(y=1)=True:=eq_true d;clear d;refine aB ?_;simp[-List.append_assoc,h,F,u,P,H,I,L,w,v3,u3,o,f,M,O,q,r,c3]
    ·rw[bW,bW];have v:=anC N k ah p.2 G p.1.2.2.2.2.2.2.2 (b++aS (4*t+y).toNat++aS (dK k).length) (by simp only[eP];omega);have f:=e (b++aS (4*t+y).toNat++aS (dK k).length++dK k) (by simp only[eP];omega);rw[show b++aS (4*t+y).toNat++aS (dK k).length++dK k++dK (l.drop (i+1))=b++(aS (4*t+y).toNat++(aS (dK k).length++dK k)++dK (l.drop (i+1))) by simp]at f;rw[JE (b++_),JE b]at v;generalize aS (4*t+y).toNat=A,aS (dK k).length=C at *;have q:2*(b.length+A.length)<=281474976710656/\b.length+A.length<=281474976710656:=ah;have r:2*(b.length+A.length+C.length)<=281474976710656/\b.length+A.length+C.length<=281474976710656:=ah;generalize dK k=K at *;have u:(y=0)=False:=eq_false ah;have P:(y=1)=False:=eq_false ah;have q2:(y=2)=True:=eq_true d;clear d;refine aB ?_;simp[-List.append_assoc,h,F,u,P,q2,H,I,L,w,hk,v4,u4,v,o,f,M,O,q,r]
  have Q:=loop l.length 0 ah B (by rw[dY];omega);rw[dY]at Q;have R:TT.lim 125 [.l (dJ B),.l (aI l),.zq l.length,.zq 0]=some [.zq 0,.l (dJ (B++dK l))]:=Q;clear loop Q;generalize dJ B=B' at *;refine aB ?_;simp[E,R]
def azY{α β:Type}{f:α->β}{n o:List β}(h:n.Perm o):∀l:List α,o=l.map f->∃p:List α,p.Perm l/\n=p.map f:=by
 induction h with
 |nil=>intro l e;exact⟨l,.refl _,e⟩
 |cons x _ r=>
  intro l e;cases l with
  |nil=>cases e
  |cons a l=>
   injection e with c d
   obtain⟨p,g,i⟩:=r l d;exact⟨a::p,g.cons a,by rw[jc,<-i,<-c]⟩
 |swap x y l=>
  intro m e;rcases m with _|⟨a,_|⟨b,m⟩⟩
  ·cases e
  ·cases e
  ·simp only[jc,yC]at e;obtain⟨c,d,s⟩:=e;exact⟨b::a::m,List.Perm.swap a b m,by rw[jc,jc,<-c,<-d,<-s]⟩
 |trans _ _ j k=>intro l e;obtain⟨p,g,i⟩:=k l e;obtain⟨q,t,u⟩:=j p i;exact⟨q,t.trans g,u⟩
def Yo:∀(p q:List aK),p.Perm q->p.Pairwise (λa b=>a.tag<=b.tag)->q.Pairwise (λa b=>a.tag<b.tag)->p=q
 |[],q,h,_,_=>(List.nil_perm.1 h).symm
 |a::p,[],h,_,_=>by have:=h.length_eq;simp at this
 |a::p,b::q,h,c,d=>by
  have f:b∈a::p:=h.mem_iff.2 aA;have g:a∈b::q:=h.mem_iff.1 aA;rw[jB]at c d;have i:a.tag<=b.tag:=by
   rcases bH.1 f with e|f
   ·rw[e];exact iG _
   ·exact c.1 b f
  have e:a=b:=by
   rcases bH.1 g with e|g
   ·exact e
   ·have:=d.1 a g;omega
  subst e;rw[Yo p q (List.Perm.cons_inv h) c.2 d.2]
def OU(f:aK):List aK->Nat
 |[]=>0
 |g::l=>if g.tag<f.tag then OU f l+1 else 0
def Ii(f:aK)(a:List aK):List aK:=a.take (OU f a)++f::a.drop (OU f a)
def Ol(a l:List aK):List aK:=l.foldl (λo f=>Ii f o) a
def ai1(f:aK)(a:List aK):(Ii f a).Perm (f::a):=by unfold Ii;refine List.perm_middle.trans ?_;rw[Jk]
def ai2(f:aK):∀d:List aK,d.Pairwise (λa b=>a.tag<b.tag)->(∀g∈d,g.tag≠f.tag)->(Ii f d).Pairwise (λa b=>a.tag<b.tag)/\(∀g,d[OU f d]? =some g->g.tag≠f.tag)
 |[],_,_=>by simp[Ii,OU]
 |g::l,e,i=>by
  rw[jB]at e;unfold Ii OU;by_cases h:g.tag<f.tag
  ·obtain⟨j,k⟩:=ai2 f l e.2 λx c=>i x (by simp[c]);rw[au h];simp only[Bz,Zc,bG,xA];refine⟨List.pairwise_cons.2 ⟨λx c=>?_,j⟩,k⟩;have:=(ai1 f l).mem_iff.1 c;rcases bH.1 this with rfl|c
   ·exact h
   ·exact e.1 x c
  ·rw[aj h];have m:=i g aA;simp only[Ut,dY,aZ,mD];refine⟨List.pairwise_cons.2 ⟨λx c=>?_,jB.2 e⟩,λx c=>?_⟩
   ·rcases bH.1 c with rfl|c
    ·omega
    ·have:=e.1 x c;omega
   ·injection c with c
    rw[<-c];exact m
def abz:∀(l c:List aK),c.Pairwise (λa b=>a.tag<b.tag)->((c++l).map aK.tag).Nodup->(Ol c l).Perm (c++l)/\(Ol c l).Pairwise (λa b=>a.tag<b.tag)
 |[],c,d,_=>by simp only[Ol,List.foldl_nil,pY];exact⟨.refl _,d⟩
 |f::l,c,d,h=>by
  have k:∀g∈c,g.tag≠f.tag:=λg m e=>by rw[oJ,List.nodup_append]at h;exact h.2.2 g.tag (List.mem_map_of_mem m) f.tag aA e
  have n:=(ai2 f c d k).1;have i:(Ii f c++l).Perm (c++f::l):=((ai1 f c).append_right l).trans (List.perm_middle.symm);have j:=abz l (Ii f c) n ((i.map aK.tag).nodup_iff.2 h);exact⟨j.1.trans i,j.2⟩
def ahR(l:List aK):(aI l).all (λg=>g.gV 5)=true:=by rw[DF,List.all_eq_true];intro g a;obtain⟨f,_,rfl⟩:=rZ.1 a;cases f;simp only[rC];rfl
def V9(a b:List aK):aI (a++b)=aI a++aI b:=by simp only[DF,oJ]
def xX(a b:List aK):List aK:=Ol [] (a++b)
def RY{a b:List aK}(c:((a++b).map aK.tag).Nodup):(xX a b).Perm (a++b)/\(xX a b).Pairwise (λx y=>x.tag<y.tag):=abz (a++b) [] List.Pairwise.nil c
def ZT(s:Q0):pO (dJ s)=some s:=by
 induction s with
 |nil=>rfl
 |cons a s c=>
  have d:(0:Int)<=a.toNat/\((a.toNat:Nat):Int)<256:=by have:=a.toNat_lt;omega
  show(if _ then _ else _)=_
  rw[au d];have e:(s.map λb=>GV.i .u8 b.toNat)=dJ s:=rfl;rw[e,c];simp
def aGK(l:List aK)(a:fF l)(b:l.length<=1000000)(d:wL l<=1000000000000)(f:jS 0 0 l=0):TT.lim 121 [.l (aI l)]=some (if 65536<(dK l).length then[.s [],.zq 4]else[.s (dK l),.zq 0]):=by
 have e:=QF (dO l+1) l ah a 0 0 f ah;have g:=VZ l a b;rw[f]at g;have j:=adQ (dO l+1) l ah a e b d;have k:=anC (dO l+1) l ah a e b [] (by simpa using d);have m:dJ []=[]:=rfl;rw[m,aZ]at k;have h:=JZ (dO l+1) l ah a e d;by_cases c:65536<(dK l).length
 ·have i:(65536:Int)<(dK l).length:=ah;rw[au c];refine aW ?_;simp[g,j,c,i]
 ·have i:¬(65536:Int)<(dK l).length:=ah;have n:=ZT (dK l);have o:(dJ (dK l)).length=(dK l).length:=by simp[dJ]
  have p:(dJ (dK l)).length<=281474976710656:=ah;have q:(0:Int)<=(dK l).length/\((dK l).length:Int)<=281474976710656/\((dK l).length:Int)<=1152921504606846976:=ah;rw[aj c];clear a d f e h;generalize dK l=r,aI l=G at *;generalize dJ r=s at *;refine aW ?_;simp[g,j,k,c,i,n,p,q,GV.gV]
def amO(f:aK):LU (rC f)=f.tag:=by cases f;simp only[rC,aK.tag];rfl
def auY(l:List aK):(aI l).all isTagged=true:=by rw[DF,List.all_eq_true];intro g a;obtain⟨f,_,rfl⟩:=rZ.1 a;cases f;simp only[rC];rfl
def aFK{a b:List aK}(h:a.Perm b):dO a=dO b:=by
 induction h with
 |nil=>rfl
 |cons x _ c=>simp only[dO,c]
 |swap x y l=>simp only[dO];omega
 |trans _ _ d e=>rw[d,e]
def ant{a b:List aK}(h:a.Perm b):wL a=wL b:=by
 induction h with
 |nil=>rfl
 |cons x _ c=>simp only[wL,c]
 |swap x y l=>simp only[wL];omega
 |trans _ _ d e=>rw[d,e]
def amL:∀a b:List aK,dO (a++b)=dO a+dO b
 |[],b=>by simp[dO]
 |f::a,b=>by simp only[bG,dO,amL a b];omega
def anq:∀a b:List aK,wL (a++b)=wL a+wL b
 |[],b=>by simp[wL]
 |f::a,b=>by simp only[bG,wL,anq a b];omega
def Wh:∀{l:List aK},(∀f∈l,uX f)->fF l
 |[],_=>by simp only[fF]
 |f::l,h=>by simp only[fF];exact⟨h f aA,Wh λg a=>h g (by simp[a])⟩
def au1{a b:List aK}(h:a.Perm b)(c:fF b):fF a:=Wh λf d=>Ic c f (h.mem_iff.1 d)
def au0{a b:List aK}(c:fF a)(d:fF b):fF (a++b):=Wh λf e=>(jQ.1 e).elim (Ic c f) (Ic d f)
def aEW(l:List aK)(m:(l.map aK.tag).Nodup):yu (aI l)=aI (Ol [] l):=by
 have k:=adR (aI l);have n:=aEV (aI l);rw[DF]at k;obtain⟨p,d,c⟩:=azY k l rfl;rw[<-DF]at c;have f:=abz l [] List.Pairwise.nil m;rw[aZ]at f;have g:p.Pairwise (λa b=>a.tag<=b.tag):=by rw[Un];intro i j hi o h;have:=n i j (rC p[i]) (rC p[j]) h (by rw[c,jA,cO hi];rfl) (by rw[c,jA,cO o];rfl);rwa [amO,amO]at this
 have e:=Yo p (Ol [] l) (d.trans f.1.symm) g f.2;rw[c,e,DF]
def alb(l:List aK)(E:l.length<=10000000)(v:l.Pairwise (λa b=>a.tag<b.tag)):∀m i:Nat,i+1+m=l.length->TT.lim 119 [.l (aI l),.zq ((i:Int)+1)]=some [.zq 1]
 |0,i,hi=>by have h:¬((i:Int)+1<l.length):=ah;have j:=qP l;refine aB ?_;simp[j,h]
 |m+1,i,hi=>by
  have h:((i:Int)+1<l.length):=ah;have j:=qP l;have w:=alb l E v m (i+1) ah;obtain⟨t,y,n,s,k,F,x,g3,g4⟩:=Ib (l:=l) (i:=i) ah;obtain⟨g,z,A,B,D,o,d,G,H⟩:=Ib (l:=l) (i:=i+1) ah;have I:t<g:=by
   have:=Un.1 v i (i+1) ah ah ah;have L:l[i]=.mk t y n s k:=by have:=cO (l:=l) (i:=i) ah;rw[F]at this;injection this with this;exact this.symm
   have M:l[i+1]=.mk g z A B D:=by have:=cO (l:=l) (i:=i+1) ah;rw[o]at this;injection this with this;exact this.symm
   rw[L,M]at this;exact this
  have p:¬g=t:=ah;have c:((i+1:Nat):Int)=(i:Int)+1:=ah;rw[c]at w;have N:=bK ((i:Int)+1+1);have e:=bK ((i:Int)+1-1);have f:(i:Int)+1-1=i:=ah;rw[f]at e;have q:(0:Int)<=(i:Int)+1:=ah;have O:((i:Int)+1).toNat=i+1:=ah;have r:i<l.length:=ah;have P:∀h:i<(aI l).length,(aI l)[i]=uj t y n s k:=λh=>by have:=cO h;rw[x]at this;injection this with this;exact this.symm
  have u:∀h:i+1<(aI l).length,(aI l)[i+1]=uj g z A B D:=λh=>by have:=cO h;rw[d]at this;injection this with this;exact this.symm
  refine aB ?_;simp[P,u,j,h,x,d,p,N,e,f,q,O,r,w]
def aAw(a b:List aK)(l:fF a)(m:fF b)(v:a.length<=1000000)(w:b.length<=1000000)(n:dO a+dO b<=1000000)(o:jS 0 0 a=0)(p:jS 0 0 b=0)(g:((a++b).map aK.tag).Nodup):TT.lim 117 [.l [.l (aI a),.l (aI b)]]=some [.l (aI (xX a b)),.zq 0]:=by
 have q:=VZ a l v;have r:=VZ b m w;rw[o]at q;rw[p]at r;have c:=V9 a b;have s:=qP a;have t:=qP b;have o1:=ahR a;have x:=ahR b;have h:TT.lim 2 [.l (aI a++aI b)]=some [.l (aI (xX a b))]:=by
  refine D5 (Ds:=Ds) (f:=TB) rfl ?_;have i:(aI a++aI b).length<=281474976710656/\(aI a++aI b).all isTagged=true:=by rw[<-c];exact⟨by rw[qP,eP];omega,auY _⟩
  show(if(aI a++aI b).length<=281474976710656/\(aI a++aI b).all isTagged=true then some [GV.l (yu (aI a++aI b))]else none)=_
  rw[au i,<-c,aEW _ g];rfl
 obtain⟨j,u⟩:=RY g;have d:(xX a b).length=a.length+b.length:=by rw[j.length_eq,eP]
 have e:(aI (xX a b)).length=(aI a++aI b).length:=by rw[qP,d,eP,s,t]
 have k:=V3 (xX a b) (by rw[aFK j,amL];exact n);have i:TT.lim 119 [.l (aI (xX a b)),.zq 1]=some [.zq 1]:=by
  rcases Uw (xX a b).length with h0|h0
  ·have:xX a b=[]:=kP h0;rw[this];have fn:aI []=[]:=by simp only[aI]
   rw[fn];refine aB ?_;simp
  ·have:=alb (xX a b) ah u ((xX a b).length-1) 0 ah;simpa using this
 have w0:IntKind.i64.wrap 1=1:=aU;have w1:IntKind.i64.wrap 2=2:=aU;have y:2*(aI a).length*64<=281474976710656/\(aI a).length<=281474976710656:=ah;have z:2*((aI a).length+(aI b).length)*64<=281474976710656/\(aI a).length+(aI b).length<=281474976710656:=ah;clear g j u d o p l m n c s t;generalize aI (xX a b)=M,aI a=A,aI b=B at *;have D:TT.lim 118 [.l (A++B),.l [.l A,.l B],.zq 2,.zq 2]=some [.zq 1,.l (A++B)]:=by refine aB ?_;simp
 have E:TT.lim 118 [.l A,.l [.l A,.l B],.zq 2,.zq 1]=some [.zq 1,.l (A++B)]:=by refine aB ?_;simp[-List.all_eq_true,r,w1,x,z,D]
 have F:TT.lim 118 [.l [],.l [.l A,.l B],.zq 2,.zq 0]=some [.zq 1,.l (A++B)]:=by refine aB ?_;simp[-List.all_eq_true,q,w0,o1,y,E]
 rw[eP]at e;refine aW ?_;simp[F,h,e,i,k]
def bJ(r:Nat):Nat:=if r%2=1 then(r/2) ^^^ 3988292384 else r/2
def kN(a b:Nat):bJ (a ^^^ b)=bJ a ^^^ bJ b:=by
 unfold bJ;have c:(a ^^^ b)/2=a/2 ^^^ b/2:=Nat.xor_div_two;have d:(a ^^^ b)%2=(a+b)%2:=by have h:=Nat.xor_mod_two_eq_one (a:=a) (b:=b);generalize(a ^^^ b)=z at *;omega
 rw[c,d];have e:∀u v:Nat,(u ^^^ 3988292384) ^^^ (v ^^^ 3988292384)=u ^^^ v:=λu v=>by rw[ru,Nat.xor_comm v,<-ru 3988292384,Nat.xor_self,Nat.zero_xor]
 rcases aff a with f|f<;>rcases aff b with g|g
 ·rw[bW,bW,bW]
 ·rw[lY,bW,lY,ru]
 ·rw[lY,lY,bW,ru,ru,Nat.xor_comm (b/2)]
 ·rw[bW,lY,lY,e]
def lD(a:Nat):bJ (2*a+1)=a ^^^ 3988292384:=by unfold bJ;rw[lY,(ah:(2*a+1)/2=a)]
def lC(a:Nat):bJ (2*a)=a:=by unfold bJ;rw[bW,(ah:2*a/2=a)]
def gY(r:Nat):Nat:=bJ (bJ (bJ (bJ r)))
def aE5(q:Nat):gY (16*q)=q ^^^ 0:=by
 have a:bJ (16*q)=8*q:=by rw[(ah:16*q=2*(8*q))];exact lC _
 have b:bJ (8*q)=4*q:=by rw[(ah:8*q=2*(4*q))];exact lC _
 have c:bJ (4*q)=2*q:=by rw[(ah:4*q=2*(2*q))];exact lC _
 have d:bJ (2*q)=q:=by exact lC _
 unfold gY;rw[a];rw[b];rw[c];rw[d];rw[Nat.xor_zero]
def aE6(q:Nat):gY (16*q+1)=q ^^^ 498536548:=by
 have a:bJ (16*q+1)=(8*q) ^^^ 3988292384:=by rw[(ah:16*q+1=2*(8*q)+1)];exact lD _
 have b:bJ (8*q)=4*q:=by rw[(ah:8*q=2*(4*q))];exact lC _
 have c:bJ (4*q)=2*q:=by rw[(ah:4*q=2*(2*q))];exact lC _
 have d:bJ (2*q)=q:=by exact lC _
 unfold gY;rw[a];rw[kN,b,show bJ 3988292384=1994146192 by decide];rw[kN,c,show bJ 1994146192=997073096 by decide];rw[kN,d,show bJ 997073096=498536548 by decide]
def aFd(q:Nat):gY (16*q+2)=q ^^^ 997073096:=by
 have a:bJ (16*q+2)=8*q+1:=by rw[(ah:16*q+2=2*(8*q+1))];exact lC _
 have b:bJ (8*q+1)=(4*q) ^^^ 3988292384:=by rw[(ah:8*q+1=2*(4*q)+1)];exact lD _
 have c:bJ (4*q)=2*q:=by rw[(ah:4*q=2*(2*q))];exact lC _
 have d:bJ (2*q)=q:=by exact lC _
 unfold gY;rw[a];rw[b];rw[kN,c,show bJ 3988292384=1994146192 by decide];rw[kN,d,show bJ 1994146192=997073096 by decide]
def aFe(q:Nat):gY (16*q+3)=q ^^^ 651767980:=by
 have a:bJ (16*q+3)=(8*q+1) ^^^ 3988292384:=by rw[(ah:16*q+3=2*(8*q+1)+1)];exact lD _
 have b:bJ (8*q+1)=(4*q) ^^^ 3988292384:=by rw[(ah:8*q+1=2*(4*q)+1)];exact lD _
 have c:bJ (4*q)=2*q:=by rw[(ah:4*q=2*(2*q))];exact lC _
 have d:bJ (2*q)=q:=by exact lC _
 unfold gY;rw[a];rw[kN,b,show bJ 3988292384=1994146192 by decide];rw[ru,show 3988292384 ^^^ 1994146192=2607071920 by decide];rw[kN,c,show bJ 2607071920=1303535960 by decide];rw[kN,d,show bJ 1303535960=651767980 by decide]
def aFf(q:Nat):gY (16*q+4)=q ^^^ 1994146192:=by
 have a:bJ (16*q+4)=8*q+2:=by rw[(ah:16*q+4=2*(8*q+2))];exact lC _
 have b:bJ (8*q+2)=4*q+1:=by rw[(ah:8*q+2=2*(4*q+1))];exact lC _
 have c:bJ (4*q+1)=(2*q) ^^^ 3988292384:=by rw[(ah:4*q+1=2*(2*q)+1)];exact lD _
 have d:bJ (2*q)=q:=by exact lC _
 unfold gY;rw[a];rw[b];rw[c];rw[kN,d,show bJ 3988292384=1994146192 by decide]
def aFg(q:Nat):gY (16*q+5)=q ^^^ 1802195444:=by
 have a:bJ (16*q+5)=(8*q+2) ^^^ 3988292384:=by rw[(ah:16*q+5=2*(8*q+2)+1)];exact lD _
 have b:bJ (8*q+2)=4*q+1:=by rw[(ah:8*q+2=2*(4*q+1))];exact lC _
 have c:bJ (4*q+1)=(2*q) ^^^ 3988292384:=by rw[(ah:4*q+1=2*(2*q)+1)];exact lD _
 have d:bJ (2*q)=q:=by exact lC _
 unfold gY;rw[a];rw[kN,b,show bJ 3988292384=1994146192 by decide];rw[kN,c,show bJ 1994146192=997073096 by decide];rw[ru,show 3988292384 ^^^ 997073096=3604390888 by decide];rw[kN,d,show bJ 3604390888=1802195444 by decide]
def aFh(q:Nat):gY (16*q+6)=q ^^^ 1303535960:=by
 have a:bJ (16*q+6)=8*q+3:=by rw[(ah:16*q+6=2*(8*q+3))];exact lC _
 have b:bJ (8*q+3)=(4*q+1) ^^^ 3988292384:=by rw[(ah:8*q+3=2*(4*q+1)+1)];exact lD _
 have c:bJ (4*q+1)=(2*q) ^^^ 3988292384:=by rw[(ah:4*q+1=2*(2*q)+1)];exact lD _
 have d:bJ (2*q)=q:=by exact lC _
 unfold gY;rw[a];rw[b];rw[kN,c,show bJ 3988292384=1994146192 by decide];rw[ru,show 3988292384 ^^^ 1994146192=2607071920 by decide];rw[kN,d,show bJ 2607071920=1303535960 by decide]
def aFi(q:Nat):gY (16*q+7)=q ^^^ 1342533948:=by
 have a:bJ (16*q+7)=(8*q+3) ^^^ 3988292384:=by rw[(ah:16*q+7=2*(8*q+3)+1)];exact lD _
 have b:bJ (8*q+3)=(4*q+1) ^^^ 3988292384:=by rw[(ah:8*q+3=2*(4*q+1)+1)];exact lD _
 have c:bJ (4*q+1)=(2*q) ^^^ 3988292384:=by rw[(ah:4*q+1=2*(2*q)+1)];exact lD _
 have d:bJ (2*q)=q:=by exact lC _
 unfold gY;rw[a];rw[kN,b,show bJ 3988292384=1994146192 by decide];rw[ru,show 3988292384 ^^^ 1994146192=2607071920 by decide];rw[kN,c,show bJ 2607071920=1303535960 by decide];rw[ru,show 3988292384 ^^^ 1303535960=2685067896 by decide];rw[kN,d,show bJ 2685067896=1342533948 by decide]
def aFj(q:Nat):gY (16*q+8)=q ^^^ 3988292384:=by
 have a:bJ (16*q+8)=8*q+4:=by rw[(ah:16*q+8=2*(8*q+4))];exact lC _
 have b:bJ (8*q+4)=4*q+2:=by rw[(ah:8*q+4=2*(4*q+2))];exact lC _
 have c:bJ (4*q+2)=2*q+1:=by rw[(ah:4*q+2=2*(2*q+1))];exact lC _
 have d:bJ (2*q+1)=q ^^^ 3988292384:=by exact lD _
 unfold gY;rw[a];rw[b];rw[c];rw[d]
def aFk(q:Nat):gY (16*q+9)=q ^^^ 4027552580:=by
 have a:bJ (16*q+9)=(8*q+4) ^^^ 3988292384:=by rw[(ah:16*q+9=2*(8*q+4)+1)];exact lD _
 have b:bJ (8*q+4)=4*q+2:=by rw[(ah:8*q+4=2*(4*q+2))];exact lC _
 have c:bJ (4*q+2)=2*q+1:=by rw[(ah:4*q+2=2*(2*q+1))];exact lC _
 have d:bJ (2*q+1)=q ^^^ 3988292384:=by exact lD _
 unfold gY;rw[a];rw[kN,b,show bJ 3988292384=1994146192 by decide];rw[kN,c,show bJ 1994146192=997073096 by decide];rw[kN,d,show bJ 997073096=498536548 by decide];rw[ru,show 3988292384 ^^^ 498536548=4027552580 by decide]
def aE7(q:Nat):gY (16*q+10)=q ^^^ 3604390888:=by
 have a:bJ (16*q+10)=8*q+5:=by rw[(ah:16*q+10=2*(8*q+5))];exact lC _
 have b:bJ (8*q+5)=(4*q+2) ^^^ 3988292384:=by rw[(ah:8*q+5=2*(4*q+2)+1)];exact lD _
 have c:bJ (4*q+2)=2*q+1:=by rw[(ah:4*q+2=2*(2*q+1))];exact lC _
 have d:bJ (2*q+1)=q ^^^ 3988292384:=by exact lD _
 unfold gY;rw[a];rw[b];rw[kN,c,show bJ 3988292384=1994146192 by decide];rw[kN,d,show bJ 1994146192=997073096 by decide];rw[ru,show 3988292384 ^^^ 997073096=3604390888 by decide]
def aE8(q:Nat):gY (16*q+11)=q ^^^ 3412177804:=by
 have a:bJ (16*q+11)=(8*q+5) ^^^ 3988292384:=by rw[(ah:16*q+11=2*(8*q+5)+1)];exact lD _
 have b:bJ (8*q+5)=(4*q+2) ^^^ 3988292384:=by rw[(ah:8*q+5=2*(4*q+2)+1)];exact lD _
 have c:bJ (4*q+2)=2*q+1:=by rw[(ah:4*q+2=2*(2*q+1))];exact lC _
 have d:bJ (2*q+1)=q ^^^ 3988292384:=by exact lD _
 unfold gY;rw[a];rw[kN,b,show bJ 3988292384=1994146192 by decide];rw[ru,show 3988292384 ^^^ 1994146192=2607071920 by decide];rw[kN,c,show bJ 2607071920=1303535960 by decide];rw[kN,d,show bJ 1303535960=651767980 by decide];rw[ru,show 3988292384 ^^^ 651767980=3412177804 by decide]
def aE9(q:Nat):gY (16*q+12)=q ^^^ 2607071920:=by
 have a:bJ (16*q+12)=8*q+6:=by rw[(ah:16*q+12=2*(8*q+6))];exact lC _
 have b:bJ (8*q+6)=4*q+3:=by rw[(ah:8*q+6=2*(4*q+3))];exact lC _
 have c:bJ (4*q+3)=(2*q+1) ^^^ 3988292384:=by rw[(ah:4*q+3=2*(2*q+1)+1)];exact lD _
 have d:bJ (2*q+1)=q ^^^ 3988292384:=by exact lD _
 unfold gY;rw[a];rw[b];rw[c];rw[kN,d,show bJ 3988292384=1994146192 by decide];rw[ru,show 3988292384 ^^^ 1994146192=2607071920 by decide]
def aFa(q:Nat):gY (16*q+13)=q ^^^ 2262029012:=by
 have a:bJ (16*q+13)=(8*q+6) ^^^ 3988292384:=by rw[(ah:16*q+13=2*(8*q+6)+1)];exact lD _
 have b:bJ (8*q+6)=4*q+3:=by rw[(ah:8*q+6=2*(4*q+3))];exact lC _
 have c:bJ (4*q+3)=(2*q+1) ^^^ 3988292384:=by rw[(ah:4*q+3=2*(2*q+1)+1)];exact lD _
 have d:bJ (2*q+1)=q ^^^ 3988292384:=by exact lD _
 unfold gY;rw[a];rw[kN,b,show bJ 3988292384=1994146192 by decide];rw[kN,c,show bJ 1994146192=997073096 by decide];rw[ru,show 3988292384 ^^^ 997073096=3604390888 by decide];rw[kN,d,show bJ 3604390888=1802195444 by decide];rw[ru,show 3988292384 ^^^ 1802195444=2262029012 by decide]
def aFb(q:Nat):gY (16*q+14)=q ^^^ 2685067896:=by
 have a:bJ (16*q+14)=8*q+7:=by rw[(ah:16*q+14=2*(8*q+7))];exact lC _
 have b:bJ (8*q+7)=(4*q+3) ^^^ 3988292384:=by rw[(ah:8*q+7=2*(4*q+3)+1)];exact lD _
 have c:bJ (4*q+3)=(2*q+1) ^^^ 3988292384:=by rw[(ah:4*q+3=2*(2*q+1)+1)];exact lD _
 have d:bJ (2*q+1)=q ^^^ 3988292384:=by exact lD _
 unfold gY;rw[a];rw[b];rw[kN,c,show bJ 3988292384=1994146192 by decide];rw[ru,show 3988292384 ^^^ 1994146192=2607071920 by decide];rw[kN,d,show bJ 2607071920=1303535960 by decide];rw[ru,show 3988292384 ^^^ 1303535960=2685067896 by decide]
def aFc(q:Nat):gY (16*q+15)=q ^^^ 3183342108:=by
 have a:bJ (16*q+15)=(8*q+7) ^^^ 3988292384:=by rw[(ah:16*q+15=2*(8*q+7)+1)];exact lD _
 have b:bJ (8*q+7)=(4*q+3) ^^^ 3988292384:=by rw[(ah:8*q+7=2*(4*q+3)+1)];exact lD _
 have c:bJ (4*q+3)=(2*q+1) ^^^ 3988292384:=by rw[(ah:4*q+3=2*(2*q+1)+1)];exact lD _
 have d:bJ (2*q+1)=q ^^^ 3988292384:=by exact lD _
 unfold gY;rw[a];rw[kN,b,show bJ 3988292384=1994146192 by decide];rw[ru,show 3988292384 ^^^ 1994146192=2607071920 by decide];rw[kN,c,show bJ 2607071920=1303535960 by decide];rw[ru,show 3988292384 ^^^ 1303535960=2685067896 by decide];rw[kN,d,show bJ 2685067896=1342533948 by decide];rw[ru,show 3988292384 ^^^ 1342533948=3183342108 by decide]
def xU(b:aQ)(s:dU):Option aK:=match placeOf s.name with
 |some p=>if(bC b p).1=0/\(bC b p).2=[]then none else some (.mk s.tag (eF p) (bC b p).1 (bC b p).2 [])
 |none=>none
def lU(b:aQ)(l:List dU):List aK:=l.filterMap (xU b)
def Fp(b:aQ)(s:dU)(l:List dU):lU b (s::l)=(match xU b s with|some f=>[f]|none=>[])++lU b l:=by unfold lU;rw[List.filterMap_cons];cases xU b s<;>rfl
def akI{b:aQ}{v:List aK}(F:tV b v)(c:List dU)(I:c.length<=1000)(o:∀s∈c,placeOf s.name≠none/\s.use=ael s.name):∀(m i:Nat)(a:List aK),i+m=c.length->a.length+m<=2000->
 TT.lim 110 ([.l (aI a),.l (c.map gJ),.zq c.length,.zq i]++(jk b (aI v)).cells)=some [.zq 0,.l (aI (a++lU b (c.drop i)))]
 |0,i,a,hi,L=>by have h:¬((i:Int)<c.length):=ah;have e:c.drop i=[]:=iP;rw[e];have:lU b []=[]:=rfl;rw[this,pY,fG];simp only[bG,aZ];refine aB ?_;simp[h]
 |m+1,i,a,hi,L=>by
  have g:i<c.length:=ah;have h:((i:Int)<c.length):=ah;obtain⟨p,y⟩:∃p,placeOf c[i].name=some p:=by
   cases e:placeOf c[i].name with
   |some p=>exact⟨p,rfl⟩
   |none=>exact absurd e (o _ (iZ g)).1
  have w:=ayV F y;have q:c.drop i=c[i]::c.drop (i+1):=iY g;have j:(c.map gJ)[i]? =some (gJ c[i]):=by rw[jA,cO g];rfl
  have d:((i+1:Nat):Int)=(i:Int)+1:=ah;have z:=bK ((i:Int)+1);rw[q,Fp];have G:xU b c[i]=if(bC b p).1=0/\(bC b p).2=[]then none else some (.mk c[i].tag (eF p) (bC b p).1 (bC b p).2 []):=by unfold xU;rw[y]
  rw[G];have f:=akI F c I o m (i+1);generalize c[i]=s at *;clear G q y;have H:=qP a;have fn:aI []=[]:=by simp only[aI]
  have k:(uj s.tag (eF p) (bC b p).1 (bC b p).2 []).gV 5=true:=rfl;have l:GV.g [.zu s.tag,.zq (eF p),.zu (bC b p).1,.s (bC b p).2,.l []]=uj s.tag (eF p) (bC b p).1 (bC b p).2 []:=by unfold uj;rw[fn]
  have B:2*((aI a).length+1)*64<=281474976710656/\(aI a).length+1<=281474976710656:=ah;by_cases x:(bC b p).1=0/\(bC b p).2=[]
  ·rw[au x];have f:=f a ah ah;rw[fG,d]at f;rw[fG];simp only[bG,aZ]at f⊢;clear k l B H;obtain⟨M,N⟩:=x;rw[M,N]at w;generalize aI a=A,aI v=r,c.map gJ=O,eF p=P at *;refine aB ?_;simp[h,j,lW,w,z,f]
  ·rw[aj x];have f:=f (a++[.mk s.tag (eF p) (bC b p).1 (bC b p).2 []]) ah (by rw[eP,GH];omega);have u:aI (a++[.mk s.tag (eF p) (bC b p).1 (bC b p).2 []])=aI a++[uj s.tag (eF p) (bC b p).1 (bC b p).2 []]:=by rw[V9];simp only[aI,rC];rfl
   rw[fG,d,u,List.append_assoc]at f;rw[fG];simp only[bG,aZ]at f⊢;generalize Q:aI (a++.mk s.tag (eF p) (bC b p).1 (bC b p).2 []::lU b (c.drop (i+1)))=R at *;clear Q u H;generalize uj s.tag (eF p) (bC b p).1 (bC b p).2 []=E,aI a=A,aI v=r,c.map gJ=O at *;generalize eF p=P,bC b p=S at *;obtain⟨n,t⟩:=S;simp only at *;by_cases D:n=0
   ·have T:¬t=[]:=λe=>x ⟨D,e⟩;subst D;refine aB ?_;simp[h,j,lW,w,T,l,k,B,z,f]
   ·refine aB ?_;simp[h,j,lW,w,D,l,k,B,z,f]
def QE:∀(l:List aK)(w:Nat)(a:Int),jS w a l=0->(∀f∈l,f.tag≠0/\f.tag<=4294967296/\Az w f=0/\a<f.tag)/\l.Pairwise (λx y=>x.tag<y.tag)
 |[],w,a,_=>⟨aA,List.Pairwise.nil⟩
 |f::l,w,a,h=>by
  unfold jS at h;by_cases h1:f.tag=0
  ·rw[au h1]at h;exact absurd h aU
  rw[aj h1]at h;by_cases d:4294967296<f.tag
  ·rw[au d]at h;exact absurd h aU
  rw[aj d]at h;by_cases i:f.tag<=a
  ·rw[au i]at h;exact absurd h aU
  rw[aj i]at h;by_cases c:Az w f=0;rotate_left
  ·rw[au c]at h;exact absurd h c
  rw[aj (λe=>e c)]at h;obtain⟨j,k⟩:=QE l w f.tag h;refine⟨λg b=>?_,jB.2 ⟨λg b=>(j g b).2.2.2,k⟩⟩;rcases bH.1 b with rfl|b
  ·exact⟨h1,ah,c,ah⟩
  ·obtain⟨m,n,o,p⟩:=j g b;exact⟨m,n,o,ah⟩
def aag:∀(l:List aK)(w:Nat)(a:Int),(∀f∈l,f.tag≠0/\f.tag<=4294967296/\Az w f=0/\a<f.tag)->l.Pairwise (λx y=>x.tag<y.tag)->jS w a l=0
 |[],w,a,_,_=>by unfold jS;rfl
 |f::l,w,a,h,b=>by obtain⟨q1,i,d,j⟩:=h f aA;rw[jB]at b;unfold jS;rw[aj q1,bW,bW,aj (λe=>e d)];refine aag l w f.tag (λg c=>?_) b.2;obtain⟨r1,r2,r3,k⟩:=h g (by simp[c]);exact⟨r1,r2,r3,b.1 g c⟩
def aE0(k:Int):(Aa k).Pairwise (λs t=>s.tag<t.tag)/\∀s∈Aa k,1<=s.tag/\s.tag<=5:=by
 unfold Aa;repeat' split
 all_goals first|(unfold sp1;decide)|(unfold sp2;decide)|(unfold F8;decide)|(unfold F9;decide)|(unfold Gf;decide)|(unfold Gg;decide)|(unfold Gh;decide)|(unfold Gi;decide)|exact⟨List.Pairwise.nil,λs a=>by cases a⟩
def Kz(k v:Int):(aT k v).Pairwise (λs t=>s.tag<t.tag)/\∀s∈aT k v,1<=s.tag/\s.tag<=5:=by obtain⟨a,b⟩:=aE0 k;exact⟨a.sublist ae1,λs c=>b s (CX.1 c).1⟩
def RD{b:aQ}{s:dU}{f:aK}(h:xU b s=some f):∃p,placeOf s.name=some p/\f=.mk s.tag (eF p) (bC b p).1 (bC b p).2 []/\¬((bC b p).1=0/\(bC b p).2=[]):=by
 unfold xU at h;cases c:placeOf s.name with
 |none=>rw[c]at h;cases h
 |some p=>
  rw[c]at h;simp only at h;by_cases a:(bC b p).1=0/\(bC b p).2=[]
  ·rw[au a]at h;cases h
  ·rw[aj a]at h;injection h with h
   exact⟨p,rfl,h.symm,a⟩
def RF{b:aQ}{l:List dU}{f:aK}(h:f∈lU b l):∃s∈l,∃p,placeOf s.name=some p/\f=.mk s.tag (eF p) (bC b p).1 (bC b p).2 []/\¬((bC b p).1=0/\(bC b p).2=[]):=by unfold lU at h;obtain⟨s,a,c⟩:=List.mem_filterMap.1 h;exact⟨s,a,RD c⟩
def Xg(b:aQ):∀(l:List dU),l.Pairwise (λs t=>s.tag<t.tag)->(lU b l).Pairwise (λx y=>x.tag<y.tag)
 |[],_=>List.Pairwise.nil
 |s::l,h=>by
  rw[jB]at h;rw[Fp];have c:=Xg b l h.2;cases d:xU b s with
  |none=>exact c
  |some f=>obtain⟨p,-,rfl,-⟩:=RD d;refine jB.2 ⟨λg e=>?_,c⟩;obtain⟨i,a,j,-,rfl,-⟩:=RF e;exact h.1 i a
def aGt(b:aQ)(p:Pl):(eF p=0/\(bC b p).2=[])\/(eF p=1/\(bC b p).1=0):=by cases p<;>simp[eF,bC]
def ajj(b:aQ)(k v:Int):jS 0 0 (lU b (aT k v))=0:=by
 obtain⟨d,e⟩:=Kz k v;refine aag _ 0 0 (λf g=>?_) (Xg b _ d);obtain⟨s,h,p,-,rfl,-⟩:=RF g;have:=e s h;refine⟨by show s.tag≠0;omega,by show s.tag<=_;omega,?_,by show 0<s.tag;omega⟩;unfold Az;rcases aGt b p with⟨a,c⟩|⟨a,c⟩
 ·rw[a,c];simp
 ·rw[a,c];simp
def Short(b:aQ):Prop:=b.name.length<=600/\b.region.length<=600/\b.note.length<=600
def anh{b:aQ}{a:List aK}(h:tV b a)(c:Short b)(p:Pl):(0<=(bC b p).1/\(bC b p).1<18446744073709551616)/\(bC b p).2.length<=100000000:=by
 have q:=h.body;obtain⟨w1,e,f⟩:=c;cases p with
 |rem=>have g:=q.remaining;exact⟨by simp only[bC];unfold zz;split<;>omega,by simp[bC]⟩
 |allow=>refine⟨?_,by simp[bC]⟩;simp only[bC];split<;>omega
 |name=>exact⟨by simp[bC],by simp only[bC];omega⟩
 |region=>exact⟨by simp[bC],by simp only[bC];omega⟩
 |note=>exact⟨by simp[bC],by simp only[bC];omega⟩
 |d=>
  refine⟨by simp[bC],?_⟩;simp only[bC];have:=Rz h.d;split
  ·simp
  ·omega
 |t=>
  refine⟨by simp[bC],?_⟩;simp only[bC];have:=akE b.t h.t;split
  ·simp
  ·unfold AY;split
   ·simp
   ·simp only;omega
 |num k=>refine⟨?_,by simp[bC]⟩;simp only[bC];unfold qV;split<;>first|exact q.id|exact q.min|exact q.max|exact q.chosen|exact q.flags|exact q.cost|exact q.priority|exact q.deadline|exact q.retry|exact q.epoch|exact q.base|exact q.digest|exact q.lag|exact q.code|exact q.want
def ajg{b:aQ}{c:List aK}(h:tV b c)(d:Short b)(k v:Int):fF (lU b (aT k v)):=Wh λf e=>by
 obtain⟨s,g,p,-,rfl,-⟩:=RF e;have i:=(Kz k v).2 s g;have a:=anh h d p;have j:0<=eF p/\eF p<=1:=by cases p<;>simp[eF]
 simp only[uX,fF];refine⟨⟨?_,?_,?_,?_,a.1.1,a.1.2,a.2,?_⟩,trivial⟩;all_goals first|omega|simp
def ajf(b:aQ)(k v:Int):(lU b (aT k v)).length<=8:=kZ (List.length_filterMap_le _ _) (Fq k v)
def ajh(b:aQ):∀l:List dU,dO (lU b l)<=2*l.length
 |[]=>by simp[lU,dO]
 |s::l=>by
  rw[Fp];have c:=ajh b l;cases a:xU b s with
  |none=>simp only[aZ,iE];omega
  |some f=>obtain⟨p,-,rfl,-⟩:=RD a;simp only[bG,aZ,dO,xw,iE];omega
def aji{b:aQ}{c:List aK}(h:tV b c)(a:Short b):∀l:List dU,wL (lU b l)<=100000040*l.length
 |[]=>by simp[lU,wL]
 |s::l=>by
  rw[Fp];have e:=aji h a l;cases d:xU b s with
  |none=>simp only[aZ,iE];omega
  |some f=>obtain⟨p,-,rfl,-⟩:=RD d;have g:=(anh h a p).2;simp only[bG,aZ,wL,wF,iE];omega
structure xH(b:aQ)(fl:List aK):Prop where
 msg:tV b fl
 short:Short b
 sz:dO fl<=900000
 w:wL fl<=2000000000
def Hr{b:aQ}{a:List aK}{v:Int}(h:fE b a v=0):1<=v/\v<=3/\aT b.kind v≠[]/\jS 0 0 a=0/\∀f∈a,hasTag (aT b.kind v) f.tag=false:=by
 unfold fE at h;by_cases j:v<1
 ·rw[au j]at h;exact absurd h aU
 rw[aj j]at h;by_cases k:3<v
 ·rw[au k]at h;exact absurd h aU
 rw[aj k]at h;by_cases d:aT b.kind v=[]
 ·rw[au d]at h;exact absurd h aU
 rw[aj d]at h;by_cases l:iH.all (λn=>rF (aT b.kind v) n ||oU b n)=false
 ·rw[au l]at h;exact absurd h aU
 rw[aj l]at h;by_cases g:kT b (aT b.kind v)≠0
 ·rw[au g]at h;exact absurd h g
 rw[aj g]at h;by_cases i:EI b≠0
 ·rw[au i]at h;exact absurd h i
 rw[aj i]at h;unfold OZ at h;by_cases c:jS 0 0 a≠0
 ·rw[au c]at h;exact absurd h c
 rw[aj c]at h;by_cases m:a.any (λf=>hasTag (aT b.kind v) f.tag)=true
 ·rw[au m]at h;exact absurd h aU
 refine⟨ah,ah,d,by simpa using c,λf o=>?_⟩;cases e:hasTag (aT b.kind v) f.tag with
 |false=>rfl
 |true=>exact absurd (List.any_eq_true.2 ⟨f,o,e⟩) m
def Qg{b:aQ}{a:List aK}{v:Int}(h:fE b a v=0):((lU b (aT b.kind v)++a).map aK.tag).Nodup:=by
 obtain⟨-,-,-,d,i⟩:=Hr h;have j:=Xg b _ (Kz b.kind v).1;have k:=(QE a 0 0 d).2;rw[oJ,List.nodup_append];have c:∀l:List aK,l.Pairwise (λx y=>x.tag<y.tag)->(l.map aK.tag).Nodup:=λl m=>by unfold List.Nodup;rw[List.pairwise_map];exact m.imp λh e=>ah
 refine⟨c _ j,c _ k,λx n y o e=>?_⟩;obtain⟨f,q,rfl⟩:=rZ.1 n;obtain⟨g,r,rfl⟩:=rZ.1 o;obtain⟨s,t,p,-,rfl,-⟩:=RF q;have:=i g r;unfold hasTag at this;have u:(aT b.kind v).any (λs=>decide (g.tag=s.tag))=true:=List.any_eq_true.2 ⟨s,t,EN (show g.tag=s.tag from e.symm)⟩;rw[u]at this;cases this
def wI(b:aQ)(a:List aK)(v:Int):List aK:=xX (lU b (aT b.kind v)) a
def V5(b:aQ)(a:List aK)(v:Int):List aK×Int:=if fE b a v=0 then(wI b a v,0)else([],fE b a v)
structure Y4(l:List aK):Prop where
 ok:fF l
 len:l.length<=1000000
 w:wL l<=1000000000000
 chk:jS 0 0 l=0
def ZF{b:aQ}{c:List aK}{v:Int}(a:xH b c)(h:fE b c v=0):Y4 (wI b c v):=by
 obtain⟨-,-,-,g,k⟩:=Hr h;obtain⟨e,i⟩:=RY (Qg h);have m:c.length<=900000:=by
  have:∀l:List aK,l.length<=dO l:=λl=>by
   induction l with
   |nil=>simp[dO]
   |cons f l n=>simp only[iE,dO];omega
  have:=this c;have:=a.sz;omega
 have o:=ajf b b.kind v;have p:=aji a.msg a.short (aT b.kind v);have j:=Fq b.kind v;have q:=a.w;refine⟨au1 e (au0 (ajg a.msg a.short _ _) a.msg.f8),?_,?_,?_⟩
 ·unfold wI;rw[e.length_eq,eP];omega
 ·unfold wI;rw[ant e,anq];have:100000040*(aT b.kind v).length<=100000040*8:=Ux _ j;omega
 ·refine aag _ 0 0 (λf d=>?_) i;rcases jQ.1 (e.mem_iff.1 d)with d|d
  ·exact(QE _ 0 0 (ajj b b.kind v)).1 f d
  ·exact(QE _ 0 0 g).1 f d
def ajc{k v:Int}(h:aT k v≠[]):1<=k/\k<=8:=by
 by_cases c:1<=k/\k<=8
 ·exact c
 ·exfalso;apply h;unfold aT Aa;rw[bW,bW,bW,bW,bW,bW,bW,bW];rfl
def azZ{b:aQ}{a:List aK}(d:xH b a)(v:Int):TT.lim 65 [jk b (aI a),.zq v]=some [.l (aI (V5 b a v).1),.zq (V5 b a v).2]:=by
 have f:=abZ b a v d.msg.body d.msg.t.few d.msg.f8 d.msg.len;unfold V5;by_cases c:fE b a v=0;rotate_left
 ·rw[aj c];have fn:aI []=[]:=by simp only[aI]
  rw[fn];generalize aI a=r,fE b a v=p at *;refine aW ?_;simp[lW,f,c]
 rw[au c];rw[c]at f;obtain⟨g,h,e,l,-⟩:=Hr c;have m:=Xe b.kind v g h (by have:=mt (ajk b.kind v g h).2 e;omega)
 have i:=akI d.msg (aT b.kind v) (by have:=Fq b.kind v;omega) (axy b.kind v) (aT b.kind v).length 0 [] ah (by have:=Fq b.kind v;simp;omega);have fn:aI []=[]:=by simp only[aI]
 rw[dY,aZ,fG,fn]at i;simp only[bG,aZ,tJ]at i;have j:=ajh b (aT b.kind v);have n:=Fq b.kind v;have o:=aAw _ a (ajg d.msg d.short b.kind v) d.msg.f8 (by have:=ajf b b.kind v;omega) d.msg.len (by have:=d.sz;omega) (ajj b b.kind v) l (Qg c);have k:(((aT b.kind v).map gJ).length:Int)=((aT b.kind v).length:Int):=by rw[gU]
 unfold wI;generalize aI (xX (lU b (aT b.kind v)) a)=M,aI (lU b (aT b.kind v))=q,(aT b.kind v).map gJ=s,((aT b.kind v).length:Int)=L,aI a=r at *;clear j n e l c d g h;refine aW ?_;simp[lW,f,m,k,i,o]
def bytesV(b:aQ)(a:List aK)(v:Int):Q0:=aS b.kind.toNat++dK (wI b a v)
def qO(b:aQ)(a:List aK)(v:Int):Q0×Int:=if fE b a v=0 then(if 65536<(bytesV b a v).length then([],4)else(bytesV b a v,0))else([],fE b a v)
def azX{b:aQ}{a:List aK}(j:xH b a)(v:Int):TT.lim 64 [jk b (aI a),.zq v]=some [.s (qO b a v).1,.zq (qO b a v).2]:=by
 have d:=azZ j v;unfold V5 at d;unfold qO;by_cases c:fE b a v=0;rotate_left
 ·rw[aj c]at d⊢;generalize aI a=r,fE b a v=t at *;refine aW ?_;simp[lW,d,c]
 rw[au c]at d⊢;have f:=ZF j c;have g:=aGK (wI b a v) f.ok f.len f.w f.chk;obtain⟨-,-,h,-,-⟩:=Hr c;obtain⟨u,w⟩:=ajc h;have k:=zY b.kind.toNat ah;have s:=nY (n:=b.kind.toNat) ah;rw[(ah:((b.kind.toNat:Nat):Int)=b.kind)]at k;have l:=jW (b.kind);unfold bytesV;rw[eP];clear f c j h;generalize wI b a v=m,aS b.kind.toNat=V,aI a=r at *;generalize aI m=G,dK m=i at *;by_cases o:65536<i.length
 ·rw[au o]at g;rw[lY];refine aW ?_;simp[lW,d,g]
 ·rw[aj o]at g;have p:(V.length:Int)+i.length<=9223372036854775807:=ah;by_cases q:65536<V.length+i.length
  ·have e:(65536:Int)<V.length+i.length:=ah;rw[au q];refine aW ?_;simp[lW,d,g,l,k,e,p]
  ·have e:¬(65536:Int)<V.length+i.length:=ah;rw[aj q];refine aW ?_;simp[lW,d,g,l,k,e,p]
def wrap32{n:Int}(h0:0<=n)(h1:n<4294967296):IntKind.u32.wrap n=n:=by
 have a:∀y:Int,IntKind.u32.wrap y=y%4294967296:=λy=>by simp[IntKind.wrap,IntKind.signed,IntKind.bits]
 rw[a];omega
def ofInt32(a:Nat)(b:a<4294967296):(BitVec.ofInt 32 (a:Int)).toNat=a:=by rw[wo];omega
def Y2{a b:Nat}(c:a<4294967296)(d:b<4294967296):a ^^^ b<4294967296:=Nat.xor_lt_two_pow (n:=32) c d
def x32(a b:Nat)(c:a<4294967296)(d:b<4294967296):dA .xor .u32 (a:Int) (b:Int)=some (.i .u32 ((a ^^^ b:Nat):Int)):=by
 show some (GV.i IntKind.u32 (IntKind.u32.wrap ((BitVec.ofInt 32 (a:Int) ^^^ BitVec.ofInt 32 (b:Int)).toNat:Int)))=_
 have e:=Y2 c d;rw[BitVec.toNat_xor,ofInt32 a c,ofInt32 b d,wrap32 ah ah]
def aok(a:Nat)(b:a<4294967296):dA .and .u32 (a:Int) 15=some (.i .u32 ((a%16:Nat):Int)):=by
 have h:=ofInt32 15 aU;show some (GV.i IntKind.u32 (IntKind.u32.wrap ((BitVec.ofInt 32 (a:Int) &&& BitVec.ofInt 32 15).toNat:Int)))=_
 have e:a &&& 15=a%16:=afd a 4;rw[Y7,ofInt32 a b,show(BitVec.ofInt 32 15).toNat=15 from h,e,wrap32 ah ah]
def aml(a:Nat):kX .shr .u32 (a:Int) 4=some (.i .u32 ((a:Int)/16)):=by
 show some (GV.i IntKind.u32 ((a:Int).fdiv (2^4)))=_
 rw[Gx _ aU];rfl
def Yt{r:Nat}(h:r<4294967296):bJ r<4294967296:=by
 unfold bJ;split
 ·exact Y2 ah aU
 ·omega
def adT{r:Nat}(h:r<4294967296):gY r<4294967296:=Yt (Yt (Yt (Yt h)))
def nib(y:Nat)(f:y<4294967296):(dA .and .u32 (y:Int) 15=some (.i .u32 0)/\dA .xor .u32 ((y:Int)/16) 0=some (.i .u32 (gY y:Nat)))\/(dA .and .u32 (y:Int) 15=some (.i .u32 1)/\dA .xor .u32 ((y:Int)/16) 498536548=some (.i .u32 (gY y:Nat)))\/(dA .and .u32 (y:Int) 15=some (.i .u32 2)/\dA .xor .u32 ((y:Int)/16) 997073096=some (.i .u32 (gY y:Nat)))\/(dA .and .u32 (y:Int) 15=some (.i .u32 3)/\dA .xor .u32 ((y:Int)/16) 651767980=some (.i .u32 (gY y:Nat)))\/(dA .and .u32 (y:Int) 15=some (.i .u32 4)/\dA .xor .u32 ((y:Int)/16) 1994146192=some (.i .u32 (gY y:Nat)))\/(dA .and .u32 (y:Int) 15=some (.i .u32 5)/\dA .xor .u32 ((y:Int)/16) 1802195444=some (.i .u32 (gY y:Nat)))\/(dA .and .u32 (y:Int) 15=some (.i .u32 6)/\dA .xor .u32 ((y:Int)/16) 1303535960=some (.i .u32 (gY y:Nat)))\/(dA .and .u32 (y:Int) 15=some (.i .u32 7)/\dA .xor .u32 ((y:Int)/16) 1342533948=some (.i .u32 (gY y:Nat)))\/(dA .and .u32 (y:Int) 15=some (.i .u32 8)/\dA .xor .u32 ((y:Int)/16) 3988292384=some (.i .u32 (gY y:Nat)))\/(dA .and .u32 (y:Int) 15=some (.i .u32 9)/\dA .xor .u32 ((y:Int)/16) 4027552580=some (.i .u32 (gY y:Nat)))\/(dA .and .u32 (y:Int) 15=some (.i .u32 10)/\dA .xor .u32 ((y:Int)/16) 3604390888=some (.i .u32 (gY y:Nat)))\/(dA .and .u32 (y:Int) 15=some (.i .u32 11)/\dA .xor .u32 ((y:Int)/16) 3412177804=some (.i .u32 (gY y:Nat)))\/(dA .and .u32 (y:Int) 15=some (.i .u32 12)/\dA .xor .u32 ((y:Int)/16) 2607071920=some (.i .u32 (gY y:Nat)))\/(dA .and .u32 (y:Int) 15=some (.i .u32 13)/\dA .xor .u32 ((y:Int)/16) 2262029012=some (.i .u32 (gY y:Nat)))\/(dA .and .u32 (y:Int) 15=some (.i .u32 14)/\dA .xor .u32 ((y:Int)/16) 2685067896=some (.i .u32 (gY y:Nat)))\/(dA .and .u32 (y:Int) 15=some (.i .u32 15)/\dA .xor .u32 ((y:Int)/16) 3183342108=some (.i .u32 (gY y:Nat))):=by
 have b:=aok y f;have c:∀T:Nat,T<4294967296->dA .xor .u32 ((y/16:Nat):Int) (T:Int)=some (.i .u32 ((y/16 ^^^ T:Nat):Int)):=λT g=>x32 _ T ah g;have d:y%16=0\/y%16=1\/y%16=2\/y%16=3\/y%16=4\/y%16=5\/y%16=6\/y%16=7\/y%16=8\/y%16=9\/y%16=10\/y%16=11\/y%16=12\/y%16=13\/y%16=14\/y%16=15:=ah;rcases d with h|h|h|h|h|h|h|h|h|h|h|h|h|h|h|h
 ·refine .inl ⟨?_,?_⟩
  ·rw[b,h];rfl
  ·have e:=aE5 (y/16);rw[(ah:16*(y/16)=y)]at e;rw[e];have a:((y/16:Nat):Int)=(y:Int)/16:=ah;rw[<-a];exact c 0 aU
 ·refine .inr (.inl ⟨?_,?_⟩)
  ·rw[b,h];rfl
  ·have e:=aE6 (y/16);rw[(ah:16*(y/16)+1=y)]at e;rw[e];have a:((y/16:Nat):Int)=(y:Int)/16:=ah;rw[<-a];exact c 498536548 aU
 ·refine .inr (.inr (.inl ⟨?_,?_⟩))
  ·rw[b,h];rfl
  ·have e:=aFd (y/16);rw[(ah:16*(y/16)+2=y)]at e;rw[e];have a:((y/16:Nat):Int)=(y:Int)/16:=ah;rw[<-a];exact c 997073096 aU
 ·refine .inr (.inr (.inr (.inl ⟨?_,?_⟩)))
  ·rw[b,h];rfl
  ·have e:=aFe (y/16);rw[(ah:16*(y/16)+3=y)]at e;rw[e];have a:((y/16:Nat):Int)=(y:Int)/16:=ah;rw[<-a];exact c 651767980 aU
 ·refine .inr (.inr (.inr (.inr (.inl ⟨?_,?_⟩))))
  ·rw[b,h];rfl
  ·have e:=aFf (y/16);rw[(ah:16*(y/16)+4=y)]at e;rw[e];have a:((y/16:Nat):Int)=(y:Int)/16:=ah;rw[<-a];exact c 1994146192 aU
 ·refine .inr (.inr (.inr (.inr (.inr (.inl ⟨?_,?_⟩)))))
  ·rw[b,h];rfl
  ·have e:=aFg (y/16);rw[(ah:16*(y/16)+5=y)]at e;rw[e];have a:((y/16:Nat):Int)=(y:Int)/16:=ah;rw[<-a];exact c 1802195444 aU
 ·refine .inr (.inr (.inr (.inr (.inr (.inr (.inl ⟨?_,?_⟩))))))
  ·rw[b,h];rfl
  ·have e:=aFh (y/16);rw[(ah:16*(y/16)+6=y)]at e;rw[e];have a:((y/16:Nat):Int)=(y:Int)/16:=ah;rw[<-a];exact c 1303535960 aU
 ·refine .inr (.inr (.inr (.inr (.inr (.inr (.inr (.inl ⟨?_,?_⟩)))))))
  ·rw[b,h];rfl
  ·have e:=aFi (y/16);rw[(ah:16*(y/16)+7=y)]at e;rw[e];have a:((y/16:Nat):Int)=(y:Int)/16:=ah;rw[<-a];exact c 1342533948 aU
 ·refine .inr (.inr (.inr (.inr (.inr (.inr (.inr (.inr (.inl ⟨?_,?_⟩))))))))
  ·rw[b,h];rfl
  ·have e:=aFj (y/16);rw[(ah:16*(y/16)+8=y)]at e;rw[e];have a:((y/16:Nat):Int)=(y:Int)/16:=ah;rw[<-a];exact c 3988292384 aU
 ·refine .inr (.inr (.inr (.inr (.inr (.inr (.inr (.inr (.inr (.inl ⟨?_,?_⟩)))))))))
  ·rw[b,h];rfl
  ·have e:=aFk (y/16);rw[(ah:16*(y/16)+9=y)]at e;rw[e];have a:((y/16:Nat):Int)=(y:Int)/16:=ah;rw[<-a];exact c 4027552580 aU
 ·refine .inr (.inr (.inr (.inr (.inr (.inr (.inr (.inr (.inr (.inr (.inl ⟨?_,?_⟩))))))))))
  ·rw[b,h];rfl
  ·have e:=aE7 (y/16);rw[(ah:16*(y/16)+10=y)]at e;rw[e];have a:((y/16:Nat):Int)=(y:Int)/16:=ah;rw[<-a];exact c 3604390888 aU
 ·refine .inr (.inr (.inr (.inr (.inr (.inr (.inr (.inr (.inr (.inr (.inr (.inl ⟨?_,?_⟩)))))))))))
  ·rw[b,h];rfl
  ·have e:=aE8 (y/16);rw[(ah:16*(y/16)+11=y)]at e;rw[e];have a:((y/16:Nat):Int)=(y:Int)/16:=ah;rw[<-a];exact c 3412177804 aU
 ·refine .inr (.inr (.inr (.inr (.inr (.inr (.inr (.inr (.inr (.inr (.inr (.inr (.inl ⟨?_,?_⟩))))))))))))
  ·rw[b,h];rfl
  ·have e:=aE9 (y/16);rw[(ah:16*(y/16)+12=y)]at e;rw[e];have a:((y/16:Nat):Int)=(y:Int)/16:=ah;rw[<-a];exact c 2607071920 aU
 ·refine .inr (.inr (.inr (.inr (.inr (.inr (.inr (.inr (.inr (.inr (.inr (.inr (.inr (.inl ⟨?_,?_⟩)))))))))))))
  ·rw[b,h];rfl
  ·have e:=aFa (y/16);rw[(ah:16*(y/16)+13=y)]at e;rw[e];have a:((y/16:Nat):Int)=(y:Int)/16:=ah;rw[<-a];exact c 2262029012 aU
 ·refine .inr (.inr (.inr (.inr (.inr (.inr (.inr (.inr (.inr (.inr (.inr (.inr (.inr (.inr (.inl ⟨?_,?_⟩))))))))))))))
  ·rw[b,h];rfl
  ·have e:=aFb (y/16);rw[(ah:16*(y/16)+14=y)]at e;rw[e];have a:((y/16:Nat):Int)=(y:Int)/16:=ah;rw[<-a];exact c 2685067896 aU
 ·refine .inr (.inr (.inr (.inr (.inr (.inr (.inr (.inr (.inr (.inr (.inr (.inr (.inr (.inr (.inr (⟨?_,?_⟩)))))))))))))))
  ·rw[b,h];rfl
  ·have e:=aFc (y/16);rw[(ah:16*(y/16)+15=y)]at e;rw[e];have a:((y/16:Nat):Int)=(y:Int)/16:=ah;rw[<-a];exact c 3183342108 aU
def Qq(r c:Nat):Nat:=gY (gY (r ^^^ c))
def af0{r c:Nat}(a:r<4294967296)(b:c<256):Qq r c<4294967296:=adT (adT (Y2 a ah))
def Pq(r:Nat)(s:Q0):Nat:=s.foldl (λr c=>Qq r c.toNat) r
def amF:∀(s:Q0)(r:Nat),r<4294967296->Pq r s<4294967296
 |[],r,h=>h
 |c::s,r,h=>amF s _ (af0 h (by have:=c.toNat_lt;omega))
set_option maxHeartbeats 8000000 in
def azz(r:Nat)(j:r<4294967296)(c:UInt8)(s:Q0)(k l m:GV)(L:Int)(i:Nat)(f:Q1)(h:(i:Int)<L)(g:s[i]? =some c)(q:IntKind.i64.wrap ((i:Int)+1)=(i:Int)+1)
 (o:TT.lim 133 [.i .u32 (Qq r c.toNat:Nat),.s s,k,l,m,.zq L,.zq ((i:Int)+1),.i .u32 0,.i .u32 498536548,.i .u32 997073096,.i .u32 651767980,.i .u32 1994146192,.i .u32 1802195444,.i .u32 1303535960,.i .u32 1342533948,.i .u32 3988292384,.i .u32 4027552580,.i .u32 3604390888,.i .u32 3412177804,.i .u32 2607071920,.i .u32 2262029012,.i .u32 2685067896,.i .u32 3183342108]=some f):TT.lim 133 [.i .u32 (r:Nat),.s s,k,l,m,.zq L,.zq i,.i .u32 0,.i .u32 498536548,.i .u32 997073096,.i .u32 651767980,.i .u32 1994146192,.i .u32 1802195444,.i .u32 1303535960,.i .u32 1342533948,.i .u32 3988292384,.i .u32 4027552580,.i .u32 3604390888,.i .u32 3412177804,.i .u32 2607071920,.i .u32 2262029012,.i .u32 2685067896,.i .u32 3183342108]=some f:=by
 have D:=c.toNat_lt;have t:=wrap32 (n:=(c.toNat:Int)) ah ah;have X:=x32 r c.toNat j ah;have p:=Y2 j (ah:c.toNat<4294967296);unfold Qq at o;generalize r ^^^ c.toNat=x at *;have u:=aml x;have v:=adT p;have w:=nib x p;generalize gY x=y at *;have A:=aml y;have B:=nib y v;generalize gY y=z at *;rcases w with⟨a,b⟩|⟨a,b⟩|⟨a,b⟩|⟨a,b⟩|⟨a,b⟩|⟨a,b⟩|⟨a,b⟩|⟨a,b⟩|⟨a,b⟩|⟨a,b⟩|⟨a,b⟩|⟨a,b⟩|⟨a,b⟩|⟨a,b⟩|⟨a,b⟩|⟨a,b⟩
 all_goals as_aux_lemma=>
  refine aB ?_;simp -implicitDefEqProofs[h,g,t,X,a,u,b];rcases B with⟨d,e⟩|⟨d,e⟩|⟨d,e⟩|⟨d,e⟩|⟨d,e⟩|⟨d,e⟩|⟨d,e⟩|⟨d,e⟩|⟨d,e⟩|⟨d,e⟩|⟨d,e⟩|⟨d,e⟩|⟨d,e⟩|⟨d,e⟩|⟨d,e⟩|⟨d,e⟩
  all_goals simp -implicitDefEqProofs[d,A,e,q,o]
def akx(s:Q0)(n:s.length<=100000000)(c d f:GV):∀(m i:Nat)(r:Nat),i+m=s.length->r<4294967296->
 TT.lim 133 [.i .u32 (r:Nat),.s s,c,d,f,.zq s.length,.zq i,.i .u32 0,.i .u32 498536548,.i .u32 997073096,.i .u32 651767980,.i .u32 1994146192,.i .u32 1802195444,.i .u32 1303535960,.i .u32 1342533948,.i .u32 3988292384,.i .u32 4027552580,.i .u32 3604390888,.i .u32 3412177804,.i .u32 2607071920,.i .u32 2262029012,.i .u32 2685067896,.i .u32 3183342108]=some [.zq 0,.i .u32 (Pq r (s.drop i):Nat)]
 |0,i,r,hi,g=>by
  have e:s.drop i=[]:=iP;have h:¬((i:Int)<s.length):=ah;rw[e];show _=some [GV.zq 0,.i .u32 (r:Nat)]
  refine aB ?_;simp[h]
 |m+1,i,r,hi,g=>by have b:i<s.length:=ah;have j:s.drop i=s[i]::s.drop (i+1):=iY b;have k:s[i]? =some s[i]:=cO b;have a:((i+1:Nat):Int)=(i:Int)+1:=ah;have o:=bK ((i:Int)+1);have l:=akx s n c d f m (i+1) (Qq r s[i].toNat) ah (af0 g (by have:=s[i].toNat_lt;omega));rw[a]at l;rw[j];exact azz r g s[i] s c d f s.length i _ ah k o l
def akp(a:Nat)(b:a<4294967296):dA .xor .u32 4294967295 (a:Int)=some (.i .u32 ((4294967295-a:Nat):Int)):=by
 show some (GV.i IntKind.u32 (IntKind.u32.wrap ((BitVec.ofInt 32 4294967295 ^^^ BitVec.ofInt 32 (a:Int)).toNat:Int)))=_
 have e:BitVec.ofInt 32 4294967295=BitVec.allOnes 32:=aU;rw[e,BitVec.xor_comm,aeG,aeE,ofInt32 a b,wrap32 ah ah]
def jr(s:Q0):Nat:=4294967295-Pq 4294967295 s
def agP(s:Q0):jr s<4294967296:=by unfold jr;omega
def aFt:TT.lim 131 []=some [.g [.i .u32 0,.i .u32 498536548,.i .u32 997073096,.i .u32 651767980,.i .u32 1994146192,.i .u32 1802195444,.i .u32 1303535960,.i .u32 1342533948,.i .u32 3988292384,.i .u32 4027552580,.i .u32 3604390888,.i .u32 3412177804,.i .u32 2607071920,.i .u32 2262029012,.i .u32 2685067896,.i .u32 3183342108]]:=D5 (Ds:=Ds) (f:=Yv) rfl rfl
def aau(s:Q0)(d:s.length<=100000000):TT.lim 129 [.l [.s s]]=some [.i .u32 (jr s:Nat)]:=by
 have a:=akx s d (.l [.s s]) (.zq 1) (.zq 0) s.length 0 4294967295 ah aU;rw[dY]at a;have a:TT.lim 133 [.i .u32 4294967295,.s s,.l [.s s],.zq 1,.zq 0,.zq s.length,.zq 0,.i .u32 0,.i .u32 498536548,.i .u32 997073096,.i .u32 651767980,.i .u32 1994146192,.i .u32 1802195444,.i .u32 1303535960,.i .u32 1342533948,.i .u32 3988292384,.i .u32 4027552580,.i .u32 3604390888,.i .u32 3412177804,.i .u32 2607071920,.i .u32 2262029012,.i .u32 2685067896,.i .u32 3183342108]=some [.zq 0,.i .u32 (Pq 4294967295 s:Nat)]:=a;have b:=amF s 4294967295 aU;have e:=akp (Pq 4294967295 s) b;unfold jr;have f:=aFt;have w0:IntKind.i64.wrap 1=1:=aU;generalize Pq 4294967295 s=Z at *;have g:TT.lim 132 [.i .u32 (Z:Nat),.l [.s s],.zq 1,.zq 1,.i .u32 0,.i .u32 498536548,.i .u32 997073096,.i .u32 651767980,.i .u32 1994146192,.i .u32 1802195444,.i .u32 1303535960,.i .u32 1342533948,.i .u32 3988292384,.i .u32 4027552580,.i .u32 3604390888,.i .u32 3412177804,.i .u32 2607071920,.i .u32 2262029012,.i .u32 2685067896,.i .u32 3183342108]=some [.zq 0,.i .u32 (Z:Nat)]:=by refine aB ?_;simp
 have h:TT.lim 132 [.i .u32 4294967295,.l [.s s],.zq 1,.zq 0,.i .u32 0,.i .u32 498536548,.i .u32 997073096,.i .u32 651767980,.i .u32 1994146192,.i .u32 1802195444,.i .u32 1303535960,.i .u32 1342533948,.i .u32 3988292384,.i .u32 4027552580,.i .u32 3604390888,.i .u32 3412177804,.i .u32 2607071920,.i .u32 2262029012,.i .u32 2685067896,.i .u32 3183342108]=some [.zq 0,.i .u32 (Z:Nat)]:=by refine aB ?_;simp[a,w0,g]
 have i:dA .xor .u32 4294967295 0=some (.i .u32 4294967295):=akp 0 aU;have j:∀n:Int,YP .xor (some (.i .u32 n))=dA .xor .u32 4294967295 n:=λ_=>rfl;have c:TT.lim 130 [.i .u32 0,.l [.s s]]=some [.i .u32 (4294967295-Z:Nat)]:=by refine aW ?_;simp[f,j,i,h,e]
 refine aW ?_;simp[c]
def Ub(n:Int):IntKind.u8.wrap n=n%256:=by simp[IntKind.wrap,IntKind.signed,IntKind.bits]
def le4(n:Nat):Q0:=[UInt8.ofNat (n%256),UInt8.ofNat (n/256%256),UInt8.ofNat (n/65536%256),UInt8.ofNat (n/16777216%256)]
def fA(p:Q0):Q0:=[81,70]++aS p.length++p++le4 (jr p)
def axJ(n:Nat):pO [.i .u8 ((n:Int)%256),.i .u8 ((n:Int)/256%256),.i .u8 ((n:Int)/65536%256),.i .u8 ((n:Int)/16777216%256)]=some (le4 n):=by
 have a:∀(x:Int)(r:Q1),0<=x->x<256->pO (.i .u8 x::r)=(pO r).map (UInt8.ofNat x.toNat::·):=λx r b c=>by
  show(if _ then _ else _)=_
  rw[au ⟨b,c⟩]
 rw[a _ _ ah ah,a _ _ ah ah,a _ _ ah ah,a _ _ ah ah];show some _=_
 unfold le4;congr 5<;>omega
def aEK(a:Nat):kX .shr .u32 (a:Int) 8=some (.i .u32 ((a:Int)/256)):=by
 show some (GV.i IntKind.u32 ((a:Int).fdiv (2^8)))=_
 rw[Gx _ aU];rfl
def aEG(a:Nat):kX .shr .u32 (a:Int) 16=some (.i .u32 ((a:Int)/65536)):=by
 show some (GV.i IntKind.u32 ((a:Int).fdiv (2^16)))=_
 rw[Gx _ aU];rfl
def aEI(a:Nat):kX .shr .u32 (a:Int) 24=some (.i .u32 ((a:Int)/16777216)):=by
 show some (GV.i IntKind.u32 ((a:Int).fdiv (2^24)))=_
 rw[Gx _ aU];rfl
def anB(p:Q0)(r:p.length<=65536):TT.lim 128 [.s p]=some [.s (fA p),.zq 0]:=by have c:=aau p ah;have d:=agP p;have e:=zY p.length ah;have f:=nY (n:=p.length) ah;have g:=jW ((p.length:Int));have h:¬(65536:Int)<p.length:=ah;have i:(2:Int)+(aS p.length).length<=9223372036854775807:=ah;have j:((aS p.length).length:Int)+1+1+p.length<=9223372036854775807:=ah;have k:((aS p.length).length:Int)+p.length+1+1+4<=9223372036854775807:=ah;unfold fA;have l:=axJ (jr p);have m:(le4 (jr p)).length=4:=rfl;have s8:=aEK (jr p);have a:=aEG (jr p);have b:=aEI (jr p);generalize jr p=n,aS p.length=V at *;have w0:=Ub (n:Int);have w1:=Ub ((n:Int)/256);have o:=Ub ((n:Int)/65536);have q:=Ub ((n:Int)/16777216);generalize le4 n=s,(n:Int)%256=t,(n:Int)/256%256=u,(n:Int)/65536%256=v,(n:Int)/16777216%256=w at *;refine aW ?_;simp -implicitDefEqProofs[-List.append_assoc,h,c,e,g,s8,a,b,w0,w1,o,q,l,m,i,j,k]
def QS(b:aQ)(a:List aK)(v:Int):(qO b a v).1.length<=65536:=by
 unfold qO;split
 ·split
  ·simp
  ·simp only;omega
 ·simp
