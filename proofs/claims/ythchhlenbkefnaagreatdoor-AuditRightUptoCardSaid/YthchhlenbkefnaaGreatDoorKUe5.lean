/- What the trees compute: plain laws. -/
import Derived.Test.YthchhlenbkefnaaGreatDoorKUe4
set_option linter.all false
namespace Go.Proofs.YthchhlenbkefnaaGreatDoor
open Go Go.aN
set_option maxRecDepth 100000
namespace U
mutual
def Qm:aI->List UInt8
 |.mk t y n s k=>aQ (4*t+y).toNat++(if y=0 then aQ n.toNat else if y=1 then aQ s.length++s else aQ (dw k).length++dw k)
def dw:List aI->List UInt8
 |[]=>[]
 |f::l=>Qm f++dw l
end
mutual
def wF:aI->Nat
 |.mk _ _ _ s k=>s.length+40+wL k
def wL:List aI->Nat
 |[]=>0
 |f::l=>wF f+wL l
end
mutual
def H8:aI->Prop
 |.mk t y n s k=>(1<=t/\t<=4294967296)/\((y=0/\s=[]/\k=[])\/(y=1/\n=0/\k=[])\/(y=2/\n=0/\s=[]))/\uq k
def uq:List aI->Prop
 |[]=>True
 |f::l=>H8 f/\uq l
end
def Si:∀{l:List aI},uq l->∀f∈l,H8 f
 |f::l,h,g,a=>by
  simp only[uq]at h;rcases bH.1 a with rfl|a
  ·exact h.1
  ·exact Si h.2 g a
def UO:∀(N:Nat)(l:List aI),dH l<N->eU l->∀w a,jy w a l=0->0<=a->uq l
 |0,l,h,_,_,_,_,_=>by omega
 |N+1,[],_,_,_,_,_,_=>by simp only[uq]
 |N+1,.mk t y n s k::l,j,d,w,a,h,m=>by
  simp only[dH,wB]at j;simp only[eU,uj]at d;unfold jy at h;by_cases h1:(aI.mk t y n s k).tag=0
  ·rw[aj h1]at h;exact absurd h (by decide)
  rw[ah h1]at h;by_cases g:4294967296<(aI.mk t y n s k).tag
  ·rw[aj g]at h;exact absurd h (by decide)
  rw[ah g]at h;by_cases i:(aI.mk t y n s k).tag<=a
  ·rw[aj i]at h;exact absurd h (by decide)
  rw[ah i]at h;by_cases b:zL w (.mk t y n s k)=0;rotate_left
  ·rw[aj b]at h;exact absurd h b
  rw[ah (λe=>e b)]at h;have h1:¬t=0:=h1;have g:¬4294967296<t:=g;have i:¬t<=a:=i;simp only[uq,H8];refine⟨⟨by omega,?_,?_⟩,UO N l (by omega) d.2 w t h (by omega)⟩
  ·simp only[zL]at b;split at b
   ·rename_i f
    split at b
    ·rename_i c;exact .inl ⟨f,c⟩
    ·cases b
   ·split at b
    ·rename_i f
     split at b
     ·rename_i c;exact .inr (.inl ⟨f,c⟩)
     ·cases b
    ·split at b
     ·rename_i f
      split at b
      ·rename_i c;exact .inr (.inr ⟨f,c⟩)
      ·cases b
     ·cases b
  ·simp only[zL]at b;split at b
   ·split at b
    ·rename_i c;rw[c.2];simp only[uq]
    ·cases b
   ·split at b
    ·split at b
     ·rename_i c;rw[c.2];simp only[uq]
     ·cases b
    ·split at b
     ·split at b
      ·split at b
       ·cases b
       ·exact UO N k (by omega) d.1.2 _ _ b (by omega)
      ·cases b
     ·cases b
def Nb:∀(N:Nat)(l:List aI),dH l<N->eU l->uq l->wL l<=1000000000000->(dw l).length<=wL l
 |0,l,h,_,_,_=>by omega
 |N+1,[],_,_,_,_=>by simp[dw]
 |N+1,.mk t y n s k::l,c,b,a,d=>by
  simp only[dH,wB]at c;simp only[eU,uj]at b;simp only[uq,H8]at a;simp only[wL,wF]at d⊢;have h1:=Nb N l (by omega) b.2 a.2 (by omega);have e:=Nb N k (by omega) b.1.2 a.1.2.2 (by omega);simp only[dw,Qm,eP];have f:=oJ (n:=(4*t+y).toNat) (by rcases a.1.2.1 with h|h|h<;>omega);have g:=oJ (n:=n.toNat) (by omega);have i:=oJ (n:=s.length) (by omega);have j:=oJ (n:=(dw k).length) (by omega);split
  ·omega
  ·split
   ·rw[eP];omega
   ·rw[eP];omega
def ahJ(t y:Int)(h:1<=t/\t<=4294967296)(j:0<=y/\y<4):kD .shl .u64 t 2=some (.zu (4*t))/\IntKind.u64.wrap y=y/\bV .or .u64 (4*t) y=some (.zu (4*t+y)):=by
 have a:∀y:Int,IntKind.u64.wrap y=y%18446744073709551616:=λy=>by simp[IntKind.wrap,IntKind.signed,IntKind.bits]
 have c:IntKind.u64.bits=64:=rfl;refine⟨?_,by rw[a];omega,?_⟩
 ·have d:kD .shl .u64 t 2=some (.zu (IntKind.u64.wrap (t*2^2))):=rfl;rw[d,a];congr 2;omega
 ·simp only[bV,a,c];obtain⟨T,rfl⟩:∃T:Nat,t=(T:Int):=⟨t.toNat,by omega⟩
  obtain⟨Y,rfl⟩:∃Y:Nat,y=(Y:Int):=⟨y.toNat,by omega⟩
  have e:(BitVec.ofInt 64 (4*(T:Int))).toNat=4*T:=by rw[vw];omega
  have f:(BitVec.ofInt 64 (Y:Int)).toNat=Y:=by rw[vw];omega
  have g:4*T |||Y=4*T+Y:=(amI (i:=2) (b:=Y) (by omega) T).symm;show some (GV.i IntKind.u64 (((BitVec.ofInt 64 (4*(T:Int)) |||BitVec.ofInt 64 (Y:Int)).toNat:Int)%18446744073709551616))=_
  rw[adP,e,f,g];congr 2;omega
def aaf{t y n:Int}{s:Q0}{k:List aI}(h:H8 (.mk t y n s k)):1<=t/\t<=4294967296/\0<=y/\y<3/\(y=0\/y=1\/y=2)/\uq k:=by simp only[H8]at h;rcases h.2.1 with h1|h1|h1<;>exact⟨h.1.1,h.1.2,by omega,by omega,by omega,h.2.2⟩
def ac1:∀(N:Nat)(l:List aI),dH l<N->eU l->uq l->l.length<=1000000->wL l<=1000000000000->TT.lim 122 [.l (aG l)]=some [.zq (dw l).length]
 |0,l,h,_,_,_,_=>by omega
 |N+1,l,hN,w,x,M,hw=>by
  have g:=pR l;have loop:∀m i,i+m=l.length->∀b:Nat,b+wL (l.drop i)<=1000000000000->TT.lim 123 [.l (aG l),.zq b,.zq l.length,.zq i]=some [.zq 0,.zq ((b+(dw (l.drop i)).length:Nat):Int)]:=by
   intro m;induction m with
   |zero=>
    intro i hi b c;have z:l.drop i=[]:=ig;have h:¬((i:Int)<l.length):=by omega
    rw[z];simp only[dw,kY,oL];refine au ?_;simp[h]
   |succ m Q=>
    intro i hi b c;obtain⟨t,y,n,s,k,g1,D,R,E⟩:=GH (l:=l) (i:=i) (by omega);have u:=GI w _ E;have S:=Si x _ E;simp only[uj]at u;obtain⟨T,V,W,y2,X,O⟩:=aaf S;have Y:=XW E;simp only[wB]at Y;rw[R]at c⊢;simp only[wL,wF]at c;have Z:=ac1 N k (by omega) u.2 O u.1.2.2.2.2.2.2.2 (by omega);have aa:=Nb (dH k+1) k (by omega) u.2 O (by omega);obtain⟨F,G,H⟩:=ahJ t y ⟨T,V⟩ ⟨W,by omega⟩;have v:=Ox (4*t+y).toNat (by omega);have P:=Ox n.toNat (by omega);have v3:=Ox s.length (by omega);have v4:=Ox (dw k).length (by omega);have z1:=Ib (n:=(4*t+y).toNat) (by omega);have z2:=Ib (n:=n.toNat) (by omega);have z3:=Ib (n:=s.length) (by omega);have z4:=Ib (n:=(dw k).length) (by omega);rw[show(((4*t+y).toNat:Nat):Int)=4*t+y by omega]at v;rw[show((n.toNat:Nat):Int)=n by omega]at P;have j:((i+1:Nat):Int)=(i:Int)+1:=by omega
    have o:=bF ((i:Int)+1);have h:((i:Int)<l.length):=by omega
    have e:=λa ha=>Q (i+1) (by omega) a ha;simp only[j]at e;have z:(aQ (4*t+y).toNat).length=fO (4*t+y).toNat:=rfl;have e2:(aQ n.toNat).length=fO n.toNat:=rfl;have e3:(aQ s.length).length=fO s.length:=rfl;have e4:(aQ (dw k).length).length=fO (dw k).length:=rfl;have u3:=jA ((s.length:Int));have u4:=jA (((dw k).length:Int));simp only[dw,Qm,eP];rw[z];generalize fO (4*t+y).toNat=A at *;have w1:=bF ((b:Int)+A);rcases X with d|d|d
    ·rw[aj d,e2];generalize fO n.toNat=B at *;have p:=bF ((b:Int)+A+B);have f:=e (b+A+B) (by omega);rw[show((b+A+B:Nat):Int)=(b:Int)+A+B by omega,show b+A+B+(dw (l.drop (i+1))).length=b+(A+B+(dw (l.drop (i+1))).length) by omega]at f;have q:(y=0)=True:=eq_true d;clear d;refine au ?_;simp[h,D,q,F,G,H,v,P,w1,p,o,f]
    ·rw[dA,aj d,eP,e3];generalize fO s.length=B at *;have p:=bF ((B:Int)+s.length);have I:=bF ((b:Int)+A+(B+s.length));have f:=e (b+A+(B+s.length)) (by omega);rw[show((b+A+(B+s.length):Nat):Int)=(b:Int)+A+(B+s.length) by omega,show b+A+(B+s.length)+(dw (l.drop (i+1))).length=b+(A+(B+s.length)+(dw (l.drop (i+1))).length) by omega]at f;have q:(y=0)=False:=eq_false (by omega);have J:(y=1)=True:=eq_true d;clear d;refine au ?_;simp[h,D,q,J,F,G,H,v,v3,u3,w1,p,I,o,f]
    ·rw[dA,dA,eP,e4];generalize fO (dw k).length=B at *;generalize(dw k).length=C at *;have p:=bF ((B:Int)+C);have I:=bF ((b:Int)+A+(B+C));have f:=e (b+A+(B+C)) (by omega);rw[show((b+A+(B+C):Nat):Int)=(b:Int)+A+(B+C) by omega,show b+A+(B+C)+(dw (l.drop (i+1))).length=b+(A+(B+C)+(dw (l.drop (i+1))).length) by omega]at f;have q:(y=0)=False:=eq_false (by omega);have J:(y=1)=False:=eq_false (by omega);have q2:(y=2)=True:=eq_true d;clear d;refine au ?_;simp[h,D,q,J,q2,F,G,H,v,Z,v4,u4,w1,p,I,o,f]
  have L:=loop l.length 0 (by omega) 0 (by rw[dN];omega);rw[dN,lQ]at L;have r:TT.lim 123 [.l (aG l),.zq 0,.zq (aG l).length,.zq 0]=some [.zq 0,.zq ((dw l).length:Int)]:=by rw[g];exact L
  rw[g]at r;clear loop L;refine aT ?_;simp[g,r]
def I5(a b:Q0):dh (a++b)=dh a++dh b:=by simp[dh]
def amu:∀(N:Nat)(l:List aI),dH l<N->eU l->uq l->l.length<=1000000->∀B:Q0,B.length+wL l<=1000000000000->TT.lim 124 [.l (dh B),.l (aG l)]=some [.zq 0,.l (dh (B++dw l))]
 |0,l,h,_,_,_,_,_=>by omega
 |N+1,l,hN,x,D,S,B,hB=>by
  have E:=pR l;have loop:∀m i,i+m=l.length->∀b:Q0,b.length+wL (l.drop i)<=1000000000000->TT.lim 125 [.l (dh b),.l (aG l),.zq l.length,.zq i]=some [.zq 0,.l (dh (b++dw (l.drop i)))]:=by
   intro m;induction m with
   |zero=>
    intro i hi b c;have V:l.drop i=[]:=ig;have h:¬((i:Int)<l.length):=by omega
    rw[V];simp only[dw,qp];refine au ?_;simp[h]
   |succ m W=>
    intro i hi b c;obtain⟨t,y,n,s,k,g1,F,X,G⟩:=GH (l:=l) (i:=i) (by omega);have p:=GI x _ G;have Y:=Si D _ G;simp only[uj]at p;obtain⟨Z,t2,y1,y2,y3,H⟩:=aaf Y;have hs:=XW G;simp only[wB]at hs;rw[X]at c⊢;simp only[wL,wF]at c;have hk:=ac1 N k (by omega) p.2 H p.1.2.2.2.2.2.2.2 (by omega);have aa:=Nb (dH k+1) k (by omega) p.2 H (by omega);obtain⟨I,J,L⟩:=ahJ t y ⟨Z,t2⟩ ⟨y1,by omega⟩;have w:=zf (4*t+y).toNat (by omega);have T:=zf n.toNat (by omega);have v3:=zf s.length (by omega);have v4:=zf (dw k).length (by omega);have z1:=oJ (n:=(4*t+y).toNat) (by omega);have z2:=oJ (n:=n.toNat) (by omega);have z3:=oJ (n:=s.length) (by omega);have z4:=oJ (n:=(dw k).length) (by omega);rw[show(((4*t+y).toNat:Nat):Int)=4*t+y by omega]at w;rw[show((n.toNat:Nat):Int)=n by omega]at T;have j:((i+1:Nat):Int)=(i:Int)+1:=by omega
    have o:=bF ((i:Int)+1);have h:((i:Int)<l.length):=by omega
    have e:=λa ha=>W (i+1) (by omega) a ha;simp only[j]at e;have u3:=jA ((s.length:Int));have u4:=jA (((dw k).length:Int));have M:∀z:Q0,(dh z).all (λg=>g.fP 1)=true:=λz=>by simp[dh,GV.fP]
    have O:∀z:Q0,(dh z).length=z.length:=λz=>by simp[dh]
    simp only[dw,Qm];rcases y3 with d|d|d
    ·rw[aj d];have f:=e (b++aQ (4*t+y).toNat++aQ n.toNat) (by simp only[eP];omega);rw[show b++aQ (4*t+y).toNat++aQ n.toNat++dw (l.drop (i+1))=b++(aQ (4*t+y).toNat++aQ n.toNat++dw (l.drop (i+1))) by simp,I5,I5]at f;generalize aQ (4*t+y).toNat=A,aQ n.toNat=C at *;have q:2*(b.length+A.length)<=281474976710656/\b.length+A.length<=281474976710656:=by omega
     have r:2*(b.length+A.length+C.length)<=281474976710656/\b.length+A.length+C.length<=281474976710656:=by omega
     have u:(y=0)=True:=eq_true d;clear d;refine au ?_;simp[-List.append_assoc,h,F,u,I,J,L,w,T,o,f,M,O,q,r]
    ·rw[dA,aj d];have f:=e (b++aQ (4*t+y).toNat++aQ s.length++s) (by simp only[eP];omega);rw[show b++aQ (4*t+y).toNat++aQ s.length++s++dw (l.drop (i+1))=b++(aQ (4*t+y).toNat++(aQ s.length++s)++dw (l.drop (i+1))) by simp,I5,I5,I5]at f;generalize aQ (4*t+y).toNat=A,aQ s.length=C at *;have q:2*(b.length+A.length)<=281474976710656/\b.length+A.length<=281474976710656:=by omega
     have r:2*(b.length+A.length+C.length)<=281474976710656/\b.length+A.length+C.length<=281474976710656:=by omega
     have c3:2*(b.length+A.length+C.length+s.length)<=281474976710656/\b.length+A.length+C.length+s.length<=281474976710656:=by omega
     have u:(y=0)=False:=eq_false (by omega);have P:(y=1)=True:=eq_true d;clear d;refine au ?_;simp[-List.append_assoc,h,F,u,P,I,J,L,w,v3,u3,o,f,M,O,q,r,c3]
    ·rw[dA,dA];have v:=amu N k (by omega) p.2 H p.1.2.2.2.2.2.2.2 (b++aQ (4*t+y).toNat++aQ (dw k).length) (by simp only[eP];omega);have f:=e (b++aQ (4*t+y).toNat++aQ (dw k).length++dw k) (by simp only[eP];omega);rw[show b++aQ (4*t+y).toNat++aQ (dw k).length++dw k++dw (l.drop (i+1))=b++(aQ (4*t+y).toNat++(aQ (dw k).length++dw k)++dw (l.drop (i+1))) by simp]at f;rw[I5 (b++_),I5 b]at v;generalize aQ (4*t+y).toNat=A,aQ (dw k).length=C at *;have q:2*(b.length+A.length)<=281474976710656/\b.length+A.length<=281474976710656:=by omega
     have r:2*(b.length+A.length+C.length)<=281474976710656/\b.length+A.length+C.length<=281474976710656:=by omega
     generalize dw k=K at *;have u:(y=0)=False:=eq_false (by omega);have P:(y=1)=False:=eq_false (by omega);have q2:(y=2)=True:=eq_true d;clear d;refine au ?_;simp[-List.append_assoc,h,F,u,P,q2,I,J,L,w,hk,v4,u4,v,o,f,M,O,q,r]
  have Q:=loop l.length 0 (by omega) B (by rw[dN];omega);rw[dN]at Q;have R:TT.lim 125 [.l (dh B),.l (aG l),.zq l.length,.zq 0]=some [.zq 0,.l (dh (B++dw l))]:=Q;clear loop Q;generalize dh B=B' at *;refine au ?_;simp[E,R]
def ay1{α β:Type}{f:α->β}{n o:List β}(h:n.Perm o):∀l:List α,o=l.map f->∃p:List α,p.Perm l/\n=p.map f:=by
 induction h with
 |nil=>intro l e;exact⟨l,.refl _,e⟩
 |cons x _ r=>
  intro l e;cases l with
  |nil=>cases e
  |cons a l=>
   injection e with c d
   obtain⟨p,g,i⟩:=r l d;exact⟨a::p,g.cons a,by rw[iP,<-i,<-c]⟩
 |swap x y l=>
  intro m e;rcases m with _|⟨a,_|⟨b,m⟩⟩
  ·cases e
  ·cases e
  ·simp only[iP,xH]at e;obtain⟨c,d,s⟩:=e;exact⟨b::a::m,List.Perm.swap a b m,by rw[iP,iP,<-c,<-d,<-s]⟩
 |trans _ _ j k=>intro l e;obtain⟨p,g,i⟩:=k l e;obtain⟨q,t,u⟩:=j p i;exact⟨q,t.trans g,u⟩
def XC:∀(p q:List aI),p.Perm q->p.Pairwise (λa b=>a.tag<=b.tag)->q.Pairwise (λa b=>a.tag<b.tag)->p=q
 |[],q,h,_,_=>(List.nil_perm.1 h).symm
 |a::p,[],h,_,_=>by have:=h.length_eq;simp at this
 |a::p,b::q,h,c,d=>by
  have f:b∈a::p:=h.mem_iff.2 (by simp);have g:a∈b::q:=h.mem_iff.1 (by simp);rw[iZ]at c d;have i:a.tag<=b.tag:=by
   rcases bH.1 f with e|f
   ·rw[e];exact gW _
   ·exact c.1 b f
  have e:a=b:=by
   rcases bH.1 g with e|g
   ·exact e
   ·have:=d.1 a g;omega
  subst e;rw[XC p q (List.Perm.cons_inv h) c.2 d.2]
def N7(f:aI):List aI->Nat
 |[]=>0
 |g::l=>if g.tag<f.tag then N7 f l+1 else 0
def GN(f:aI)(a:List aI):List aI:=a.take (N7 f a)++f::a.drop (N7 f a)
def Nw(a l:List aI):List aI:=l.foldl (λo f=>GN f o) a
def ah2(f:aI)(a:List aI):(GN f a).Perm (f::a):=by unfold GN;refine List.perm_middle.trans ?_;rw[Iu]
def ah3(f:aI):∀d:List aI,d.Pairwise (λa b=>a.tag<b.tag)->(∀g∈d,g.tag≠f.tag)->(GN f d).Pairwise (λa b=>a.tag<b.tag)/\(∀g,d[N7 f d]? =some g->g.tag≠f.tag)
 |[],_,_=>by simp[GN,N7]
 |g::l,e,i=>by
  rw[iZ]at e;unfold GN N7;by_cases h:g.tag<f.tag
  ·obtain⟨j,k⟩:=ah3 f l e.2 λx c=>i x (by simp[c]);rw[aj h];simp only[Am,Yu,bg,wE];refine⟨List.pairwise_cons.2 ⟨λx c=>?_,j⟩,k⟩;have:=(ah2 f l).mem_iff.1 c;rcases bH.1 this with rfl|c
   ·exact h
   ·exact e.1 x c
  ·rw[ah h];have m:=i g (by simp);simp only[Td,dN,aX,kX];refine⟨List.pairwise_cons.2 ⟨λx c=>?_,iZ.2 e⟩,λx c=>?_⟩
   ·rcases bH.1 c with rfl|c
    ·omega
    ·have:=e.1 x c;omega
   ·injection c with c
    rw[<-c];exact m
def aaR:∀(l c:List aI),c.Pairwise (λa b=>a.tag<b.tag)->((c++l).map aI.tag).Nodup->(Nw c l).Perm (c++l)/\(Nw c l).Pairwise (λa b=>a.tag<b.tag)
 |[],c,d,_=>by simp only[Nw,List.foldl_nil,qp];exact⟨.refl _,d⟩
 |f::l,c,d,h=>by
  have k:∀g∈c,g.tag≠f.tag:=λg m e=>by rw[nM,List.nodup_append]at h;exact h.2.2 g.tag (List.mem_map_of_mem m) f.tag (by simp) e
  have n:=(ah3 f c d k).1;have i:(GN f c++l).Perm (c++f::l):=((ah2 f c).append_right l).trans (List.perm_middle.symm);have j:=aaR l (GN f c) n ((i.map aI.tag).nodup_iff.2 h);exact⟨j.1.trans i,j.2⟩
def ag1(l:List aI):(aG l).all (λg=>g.fP 5)=true:=by rw[CU,List.all_eq_true];intro g a;obtain⟨f,_,rfl⟩:=rM.1 a;cases f;simp only[qC];rfl
def Vp(a b:List aI):aG (a++b)=aG a++aG b:=by simp only[CU,nM]
def xk(a b:List aI):List aI:=Nw [] (a++b)
def WH{a b:List aI}(c:((a++b).map aI.tag).Nodup):(xk a b).Perm (a++b)/\(xk a b).Pairwise (λx y=>x.tag<y.tag):=aaR (a++b) [] List.Pairwise.nil c
def Zc(s:Q0):ou (dh s)=some s:=by
 induction s with
 |nil=>rfl
 |cons a s c=>
  have d:(0:Int)<=a.toNat/\((a.toNat:Nat):Int)<256:=by have:=a.toNat_lt;omega
  show(if _ then _ else _)=_
  rw[aj d];have e:(s.map λb=>GV.i .u8 b.toNat)=dh s:=rfl;rw[e,c];simp
def aFO(l:List aI)(a:eU l)(b:l.length<=1000000)(d:wL l<=1000000000000)(f:jy 0 0 l=0):TT.lim 121 [.l (aG l)]=some (if 65536<(dw l).length then[.s [],.zq 4]else[.s (dw l),.zq 0]):=by
 have e:=UO (dH l+1) l (by omega) a 0 0 f (by omega);have g:=Vg l a b;rw[f]at g;have j:=ac1 (dH l+1) l (by omega) a e b d;have k:=amu (dH l+1) l (by omega) a e b [] (by simpa using d);have m:dh []=[]:=rfl;rw[m,aX]at k;have h:=Nb (dH l+1) l (by omega) a e d;by_cases c:65536<(dw l).length
 ·have i:(65536:Int)<(dw l).length:=by omega
  rw[aj c];refine aT ?_;simp[g,j,c,i]
 ·have i:¬(65536:Int)<(dw l).length:=by omega
  have n:=Zc (dw l);have o:(dh (dw l)).length=(dw l).length:=by simp[dh]
  have p:(dh (dw l)).length<=281474976710656:=by omega
  have q:(0:Int)<=(dw l).length/\((dw l).length:Int)<=281474976710656/\((dw l).length:Int)<=1152921504606846976:=by omega
  rw[ah c];clear a d f e h;generalize dw l=r,aG l=G at *;generalize dh r=s at *;refine aT ?_;simp[g,j,k,c,i,n,p,q,GV.fP]
def alO(f:aI):KO (qC f)=f.tag:=by cases f;simp only[qC,aI.tag];rfl
def atQ(l:List aI):(aG l).all isTagged=true:=by rw[CU,List.all_eq_true];intro g a;obtain⟨f,_,rfl⟩:=rM.1 a;cases f;simp only[qC];rfl
def aEO{a b:List aI}(h:a.Perm b):dH a=dH b:=by
 induction h with
 |nil=>rfl
 |cons x _ c=>simp only[dH,c]
 |swap x y l=>simp only[dH];omega
 |trans _ _ d e=>rw[d,e]
def aFK{a b:List aI}(h:a.Perm b):wL a=wL b:=by
 induction h with
 |nil=>rfl
 |cons x _ c=>simp only[wL,c]
 |swap x y l=>simp only[wL];omega
 |trans _ _ d e=>rw[d,e]
def alL:∀a b:List aI,dH (a++b)=dH a+dH b
 |[],b=>by simp[dH]
 |f::a,b=>by simp only[bg,dH,alL a b];omega
def aml:∀a b:List aI,wL (a++b)=wL a+wL b
 |[],b=>by simp[wL]
 |f::a,b=>by simp only[bg,wL,aml a b];omega
def Vq:∀{l:List aI},(∀f∈l,uj f)->eU l
 |[],_=>by simp only[eU]
 |f::l,h=>by simp only[eU];exact⟨h f (by simp),Vq λg a=>h g (by simp[a])⟩
def atU{a b:List aI}(h:a.Perm b)(c:eU b):eU a:=Vq λf d=>GI c f (h.mem_iff.1 d)
def atT{a b:List aI}(c:eU a)(d:eU b):eU (a++b):=Vq λf e=>(jJ.1 e).elim (GI c f) (GI d f)
def aDZ(l:List aI)(m:(l.map aI.tag).Nodup):xB (aG l)=aG (Nw [] l):=by
 have k:=ac2 (aG l);have n:=aDY (aG l);rw[CU]at k;obtain⟨p,d,c⟩:=ay1 k l rfl;rw[<-CU]at c;have f:=aaR l [] List.Pairwise.nil m;rw[aX]at f;have g:p.Pairwise (λa b=>a.tag<=b.tag):=by rw[SX];intro i j hi o h;have:=n i j (qC p[i]) (qC p[j]) h (by rw[c,iY,bT hi];rfl) (by rw[c,iY,bT o];rfl);rwa [alO,alO]at this
 have e:=XC p (Nw [] l) (d.trans f.1.symm) g f.2;rw[c,e,CU]
def akf(l:List aI)(E:l.length<=10000000)(v:l.Pairwise (λa b=>a.tag<b.tag)):∀m i:Nat,i+1+m=l.length->TT.lim 119 [.l (aG l),.zq ((i:Int)+1)]=some [.zq 1]
 |0,i,hi=>by
  have h:¬((i:Int)+1<l.length):=by omega
  have j:=pR l;refine au ?_;simp[j,h]
 |m+1,i,hi=>by
  have h:((i:Int)+1<l.length):=by omega
  have j:=pR l;have w:=akf l E v m (i+1) (by omega);obtain⟨t,y,n,s,k,F,x,P,Q⟩:=GH (l:=l) (i:=i) (by omega);obtain⟨g,z,A,B,D,o,d,G,H⟩:=GH (l:=l) (i:=i+1) (by omega);have I:t<g:=by
   have:=SX.1 v i (i+1) (by omega) (by omega) (by omega);have J:l[i]=.mk t y n s k:=by have:=bT (l:=l) (i:=i) (by omega);rw[F]at this;injection this with this;exact this.symm
   have L:l[i+1]=.mk g z A B D:=by have:=bT (l:=l) (i:=i+1) (by omega);rw[o]at this;injection this with this;exact this.symm
   rw[J,L]at this;exact this
  have p:¬g=t:=by omega
  have c:((i+1:Nat):Int)=(i:Int)+1:=by omega
  rw[c]at w;have M:=bF ((i:Int)+1+1);have e:=bF ((i:Int)+1-1);have f:(i:Int)+1-1=i:=by omega
  rw[f]at e;have q:(0:Int)<=(i:Int)+1:=by omega
  have N:((i:Int)+1).toNat=i+1:=by omega
  have r:i<l.length:=by omega
  have O:∀h:i<(aG l).length,(aG l)[i]=sD t y n s k:=λh=>by have:=bT h;rw[x]at this;injection this with this;exact this.symm
  have u:∀h:i+1<(aG l).length,(aG l)[i+1]=sD g z A B D:=λh=>by have:=bT h;rw[d]at this;injection this with this;exact this.symm
  refine au ?_;simp[O,u,j,h,x,d,p,M,e,f,q,N,r,w]
def azy(a b:List aI)(l:eU a)(m:eU b)(v:a.length<=1000000)(w:b.length<=1000000)(n:dH a+dH b<=1000000)(o:jy 0 0 a=0)(p:jy 0 0 b=0)(g:((a++b).map aI.tag).Nodup):TT.lim 117 [.l [.l (aG a),.l (aG b)]]=some [.l (aG (xk a b)),.zq 0]:=by
 have q:=Vg a l v;have r:=Vg b m w;rw[o]at q;rw[p]at r;have c:=Vp a b;have s:=pR a;have t:=pR b;have o1:=ag1 a;have x:=ag1 b;have h:TT.lim 2 [.l (aG a++aG b)]=some [.l (aG (xk a b))]:=by
  refine Bz (Ds:=Ds) (f:=RP) rfl ?_;have i:(aG a++aG b).length<=281474976710656/\(aG a++aG b).all isTagged=true:=by rw[<-c];exact⟨by rw[pR,eP];omega,atQ _⟩
  show(if(aG a++aG b).length<=281474976710656/\(aG a++aG b).all isTagged=true then some [GV.l (xB (aG a++aG b))]else none)=_
  rw[aj i,<-c,aDZ _ g];rfl
 obtain⟨j,u⟩:=WH g;have d:(xk a b).length=a.length+b.length:=by rw[j.length_eq,eP]
 have e:(aG (xk a b)).length=(aG a++aG b).length:=by rw[pR,d,eP,s,t]
 have k:=Vh (xk a b) (by rw[aEO j,alL];exact n);have i:TT.lim 119 [.l (aG (xk a b)),.zq 1]=some [.zq 1]:=by
  rcases Ti (xk a b).length with h0|h0
  ·have:xk a b=[]:=jH h0;rw[this];have fn:aG []=[]:=by simp only[aG]
   rw[fn];refine au ?_;simp
  ·have:=akf (xk a b) (by omega) u ((xk a b).length-1) 0 (by omega);simpa using this
 have w0:IntKind.i64.wrap 1=1:=by decide
 have w1:IntKind.i64.wrap 2=2:=by decide
 have y:2*(aG a).length*64<=281474976710656/\(aG a).length<=281474976710656:=by omega
 have z:2*((aG a).length+(aG b).length)*64<=281474976710656/\(aG a).length+(aG b).length<=281474976710656:=by omega
 clear g j u d o p l m n c s t;generalize aG (xk a b)=M,aG a=A,aG b=B at *;have D:TT.lim 118 [.l (A++B),.l [.l A,.l B],.zq 2,.zq 2]=some [.zq 1,.l (A++B)]:=by refine au ?_;simp
 have E:TT.lim 118 [.l A,.l [.l A,.l B],.zq 2,.zq 1]=some [.zq 1,.l (A++B)]:=by refine au ?_;simp[-List.all_eq_true,r,w1,x,z,D]
 have F:TT.lim 118 [.l [],.l [.l A,.l B],.zq 2,.zq 0]=some [.zq 1,.l (A++B)]:=by refine au ?_;simp[-List.all_eq_true,q,w0,o1,y,E]
 rw[eP]at e;refine aT ?_;simp[F,h,e,i,k]
def bD(r:Nat):Nat:=if r%2=1 then(r/2) ^^^ 3988292384 else r/2
def jX(a b:Nat):bD (a ^^^ b)=bD a ^^^ bD b:=by
 unfold bD;have c:(a ^^^ b)/2=a/2 ^^^ b/2:=Nat.xor_div_two;have d:(a ^^^ b)%2=(a+b)%2:=by have h:=Nat.xor_mod_two_eq_one (a:=a) (b:=b);generalize(a ^^^ b)=z at *;omega
 rw[c,d];have e:∀u v:Nat,(u ^^^ 3988292384) ^^^ (v ^^^ 3988292384)=u ^^^ v:=λu v=>by rw[qy,Nat.xor_comm v,<-qy 3988292384,Nat.xor_self,Nat.zero_xor]
 rcases aer a with f|f<;>rcases aer b with g|g
 ·rw[dA,dA,dA]
 ·rw[nI,dA,nI,qy]
 ·rw[nI,nI,dA,qy,qy,Nat.xor_comm (b/2)]
 ·rw[dA,nI,nI,e]
def kM(a:Nat):bD (2*a+1)=a ^^^ 3988292384:=by unfold bD;rw[nI,show(2*a+1)/2=a by omega]
def kL(a:Nat):bD (2*a)=a:=by unfold bD;rw[dA,show 2*a/2=a by omega]
def gy(r:Nat):Nat:=bD (bD (bD (bD r)))
def aD8(q:Nat):gy (16*q)=q ^^^ 0:=by
 have a:bD (16*q)=8*q:=by rw[show 16*q=2*(8*q) by omega];exact kL _
 have b:bD (8*q)=4*q:=by rw[show 8*q=2*(4*q) by omega];exact kL _
 have c:bD (4*q)=2*q:=by rw[show 4*q=2*(2*q) by omega];exact kL _
 have d:bD (2*q)=q:=by exact kL _
 unfold gy;rw[a];rw[b];rw[c];rw[d];rw[Nat.xor_zero]
def aD9(q:Nat):gy (16*q+1)=q ^^^ 498536548:=by
 have a:bD (16*q+1)=(8*q) ^^^ 3988292384:=by rw[show 16*q+1=2*(8*q)+1 by omega];exact kM _
 have b:bD (8*q)=4*q:=by rw[show 8*q=2*(4*q) by omega];exact kL _
 have c:bD (4*q)=2*q:=by rw[show 4*q=2*(2*q) by omega];exact kL _
 have d:bD (2*q)=q:=by exact kL _
 unfold gy;rw[a];rw[jX,b,show bD 3988292384=1994146192 by decide];rw[jX,c,show bD 1994146192=997073096 by decide];rw[jX,d,show bD 997073096=498536548 by decide]
def aEg(q:Nat):gy (16*q+2)=q ^^^ 997073096:=by
 have a:bD (16*q+2)=8*q+1:=by rw[show 16*q+2=2*(8*q+1) by omega];exact kL _
 have b:bD (8*q+1)=(4*q) ^^^ 3988292384:=by rw[show 8*q+1=2*(4*q)+1 by omega];exact kM _
 have c:bD (4*q)=2*q:=by rw[show 4*q=2*(2*q) by omega];exact kL _
 have d:bD (2*q)=q:=by exact kL _
 unfold gy;rw[a];rw[b];rw[jX,c,show bD 3988292384=1994146192 by decide];rw[jX,d,show bD 1994146192=997073096 by decide]
def aEh(q:Nat):gy (16*q+3)=q ^^^ 651767980:=by
 have a:bD (16*q+3)=(8*q+1) ^^^ 3988292384:=by rw[show 16*q+3=2*(8*q+1)+1 by omega];exact kM _
 have b:bD (8*q+1)=(4*q) ^^^ 3988292384:=by rw[show 8*q+1=2*(4*q)+1 by omega];exact kM _
 have c:bD (4*q)=2*q:=by rw[show 4*q=2*(2*q) by omega];exact kL _
 have d:bD (2*q)=q:=by exact kL _
 unfold gy;rw[a];rw[jX,b,show bD 3988292384=1994146192 by decide];rw[qy,show 3988292384 ^^^ 1994146192=2607071920 by decide];rw[jX,c,show bD 2607071920=1303535960 by decide];rw[jX,d,show bD 1303535960=651767980 by decide]
def aEi(q:Nat):gy (16*q+4)=q ^^^ 1994146192:=by
 have a:bD (16*q+4)=8*q+2:=by rw[show 16*q+4=2*(8*q+2) by omega];exact kL _
 have b:bD (8*q+2)=4*q+1:=by rw[show 8*q+2=2*(4*q+1) by omega];exact kL _
 have c:bD (4*q+1)=(2*q) ^^^ 3988292384:=by rw[show 4*q+1=2*(2*q)+1 by omega];exact kM _
 have d:bD (2*q)=q:=by exact kL _
 unfold gy;rw[a];rw[b];rw[c];rw[jX,d,show bD 3988292384=1994146192 by decide]
def aEj(q:Nat):gy (16*q+5)=q ^^^ 1802195444:=by
 have a:bD (16*q+5)=(8*q+2) ^^^ 3988292384:=by rw[show 16*q+5=2*(8*q+2)+1 by omega];exact kM _
 have b:bD (8*q+2)=4*q+1:=by rw[show 8*q+2=2*(4*q+1) by omega];exact kL _
 have c:bD (4*q+1)=(2*q) ^^^ 3988292384:=by rw[show 4*q+1=2*(2*q)+1 by omega];exact kM _
 have d:bD (2*q)=q:=by exact kL _
 unfold gy;rw[a];rw[jX,b,show bD 3988292384=1994146192 by decide];rw[jX,c,show bD 1994146192=997073096 by decide];rw[qy,show 3988292384 ^^^ 997073096=3604390888 by decide];rw[jX,d,show bD 3604390888=1802195444 by decide]
def aEk(q:Nat):gy (16*q+6)=q ^^^ 1303535960:=by
 have a:bD (16*q+6)=8*q+3:=by rw[show 16*q+6=2*(8*q+3) by omega];exact kL _
 have b:bD (8*q+3)=(4*q+1) ^^^ 3988292384:=by rw[show 8*q+3=2*(4*q+1)+1 by omega];exact kM _
 have c:bD (4*q+1)=(2*q) ^^^ 3988292384:=by rw[show 4*q+1=2*(2*q)+1 by omega];exact kM _
 have d:bD (2*q)=q:=by exact kL _
 unfold gy;rw[a];rw[b];rw[jX,c,show bD 3988292384=1994146192 by decide];rw[qy,show 3988292384 ^^^ 1994146192=2607071920 by decide];rw[jX,d,show bD 2607071920=1303535960 by decide]
def aEl(q:Nat):gy (16*q+7)=q ^^^ 1342533948:=by
 have a:bD (16*q+7)=(8*q+3) ^^^ 3988292384:=by rw[show 16*q+7=2*(8*q+3)+1 by omega];exact kM _
 have b:bD (8*q+3)=(4*q+1) ^^^ 3988292384:=by rw[show 8*q+3=2*(4*q+1)+1 by omega];exact kM _
 have c:bD (4*q+1)=(2*q) ^^^ 3988292384:=by rw[show 4*q+1=2*(2*q)+1 by omega];exact kM _
 have d:bD (2*q)=q:=by exact kL _
 unfold gy;rw[a];rw[jX,b,show bD 3988292384=1994146192 by decide];rw[qy,show 3988292384 ^^^ 1994146192=2607071920 by decide];rw[jX,c,show bD 2607071920=1303535960 by decide];rw[qy,show 3988292384 ^^^ 1303535960=2685067896 by decide];rw[jX,d,show bD 2685067896=1342533948 by decide]
def aEm(q:Nat):gy (16*q+8)=q ^^^ 3988292384:=by
 have a:bD (16*q+8)=8*q+4:=by rw[show 16*q+8=2*(8*q+4) by omega];exact kL _
 have b:bD (8*q+4)=4*q+2:=by rw[show 8*q+4=2*(4*q+2) by omega];exact kL _
 have c:bD (4*q+2)=2*q+1:=by rw[show 4*q+2=2*(2*q+1) by omega];exact kL _
 have d:bD (2*q+1)=q ^^^ 3988292384:=by exact kM _
 unfold gy;rw[a];rw[b];rw[c];rw[d]
def aEn(q:Nat):gy (16*q+9)=q ^^^ 4027552580:=by
 have a:bD (16*q+9)=(8*q+4) ^^^ 3988292384:=by rw[show 16*q+9=2*(8*q+4)+1 by omega];exact kM _
 have b:bD (8*q+4)=4*q+2:=by rw[show 8*q+4=2*(4*q+2) by omega];exact kL _
 have c:bD (4*q+2)=2*q+1:=by rw[show 4*q+2=2*(2*q+1) by omega];exact kL _
 have d:bD (2*q+1)=q ^^^ 3988292384:=by exact kM _
 unfold gy;rw[a];rw[jX,b,show bD 3988292384=1994146192 by decide];rw[jX,c,show bD 1994146192=997073096 by decide];rw[jX,d,show bD 997073096=498536548 by decide];rw[qy,show 3988292384 ^^^ 498536548=4027552580 by decide]
def aEa(q:Nat):gy (16*q+10)=q ^^^ 3604390888:=by
 have a:bD (16*q+10)=8*q+5:=by rw[show 16*q+10=2*(8*q+5) by omega];exact kL _
 have b:bD (8*q+5)=(4*q+2) ^^^ 3988292384:=by rw[show 8*q+5=2*(4*q+2)+1 by omega];exact kM _
 have c:bD (4*q+2)=2*q+1:=by rw[show 4*q+2=2*(2*q+1) by omega];exact kL _
 have d:bD (2*q+1)=q ^^^ 3988292384:=by exact kM _
 unfold gy;rw[a];rw[b];rw[jX,c,show bD 3988292384=1994146192 by decide];rw[jX,d,show bD 1994146192=997073096 by decide];rw[qy,show 3988292384 ^^^ 997073096=3604390888 by decide]
def aEb(q:Nat):gy (16*q+11)=q ^^^ 3412177804:=by
 have a:bD (16*q+11)=(8*q+5) ^^^ 3988292384:=by rw[show 16*q+11=2*(8*q+5)+1 by omega];exact kM _
 have b:bD (8*q+5)=(4*q+2) ^^^ 3988292384:=by rw[show 8*q+5=2*(4*q+2)+1 by omega];exact kM _
 have c:bD (4*q+2)=2*q+1:=by rw[show 4*q+2=2*(2*q+1) by omega];exact kL _
 have d:bD (2*q+1)=q ^^^ 3988292384:=by exact kM _
 unfold gy;rw[a];rw[jX,b,show bD 3988292384=1994146192 by decide];rw[qy,show 3988292384 ^^^ 1994146192=2607071920 by decide];rw[jX,c,show bD 2607071920=1303535960 by decide];rw[jX,d,show bD 1303535960=651767980 by decide];rw[qy,show 3988292384 ^^^ 651767980=3412177804 by decide]
def aEc(q:Nat):gy (16*q+12)=q ^^^ 2607071920:=by
 have a:bD (16*q+12)=8*q+6:=by rw[show 16*q+12=2*(8*q+6) by omega];exact kL _
 have b:bD (8*q+6)=4*q+3:=by rw[show 8*q+6=2*(4*q+3) by omega];exact kL _
 have c:bD (4*q+3)=(2*q+1) ^^^ 3988292384:=by rw[show 4*q+3=2*(2*q+1)+1 by omega];exact kM _
 have d:bD (2*q+1)=q ^^^ 3988292384:=by exact kM _
 unfold gy;rw[a];rw[b];rw[c];rw[jX,d,show bD 3988292384=1994146192 by decide];rw[qy,show 3988292384 ^^^ 1994146192=2607071920 by decide]
def aEd(q:Nat):gy (16*q+13)=q ^^^ 2262029012:=by
 have a:bD (16*q+13)=(8*q+6) ^^^ 3988292384:=by rw[show 16*q+13=2*(8*q+6)+1 by omega];exact kM _
 have b:bD (8*q+6)=4*q+3:=by rw[show 8*q+6=2*(4*q+3) by omega];exact kL _
 have c:bD (4*q+3)=(2*q+1) ^^^ 3988292384:=by rw[show 4*q+3=2*(2*q+1)+1 by omega];exact kM _
 have d:bD (2*q+1)=q ^^^ 3988292384:=by exact kM _
 unfold gy;rw[a];rw[jX,b,show bD 3988292384=1994146192 by decide];rw[jX,c,show bD 1994146192=997073096 by decide];rw[qy,show 3988292384 ^^^ 997073096=3604390888 by decide];rw[jX,d,show bD 3604390888=1802195444 by decide];rw[qy,show 3988292384 ^^^ 1802195444=2262029012 by decide]
def aEe(q:Nat):gy (16*q+14)=q ^^^ 2685067896:=by
 have a:bD (16*q+14)=8*q+7:=by rw[show 16*q+14=2*(8*q+7) by omega];exact kL _
 have b:bD (8*q+7)=(4*q+3) ^^^ 3988292384:=by rw[show 8*q+7=2*(4*q+3)+1 by omega];exact kM _
 have c:bD (4*q+3)=(2*q+1) ^^^ 3988292384:=by rw[show 4*q+3=2*(2*q+1)+1 by omega];exact kM _
 have d:bD (2*q+1)=q ^^^ 3988292384:=by exact kM _
 unfold gy;rw[a];rw[b];rw[jX,c,show bD 3988292384=1994146192 by decide];rw[qy,show 3988292384 ^^^ 1994146192=2607071920 by decide];rw[jX,d,show bD 2607071920=1303535960 by decide];rw[qy,show 3988292384 ^^^ 1303535960=2685067896 by decide]
def aEf(q:Nat):gy (16*q+15)=q ^^^ 3183342108:=by
 have a:bD (16*q+15)=(8*q+7) ^^^ 3988292384:=by rw[show 16*q+15=2*(8*q+7)+1 by omega];exact kM _
 have b:bD (8*q+7)=(4*q+3) ^^^ 3988292384:=by rw[show 8*q+7=2*(4*q+3)+1 by omega];exact kM _
 have c:bD (4*q+3)=(2*q+1) ^^^ 3988292384:=by rw[show 4*q+3=2*(2*q+1)+1 by omega];exact kM _
 have d:bD (2*q+1)=q ^^^ 3988292384:=by exact kM _
 unfold gy;rw[a];rw[jX,b,show bD 3988292384=1994146192 by decide];rw[qy,show 3988292384 ^^^ 1994146192=2607071920 by decide];rw[jX,c,show bD 2607071920=1303535960 by decide];rw[qy,show 3988292384 ^^^ 1303535960=2685067896 by decide];rw[jX,d,show bD 2685067896=1342533948 by decide];rw[qy,show 3988292384 ^^^ 1342533948=3183342108 by decide]
def zT(b:aO)(s:dQ):Option aI:=match placeOf s.name with
 |some p=>if(aZ b p).1=0/\(aZ b p).2=[]then none else some (.mk s.tag (dP p) (aZ b p).1 (aZ b p).2 [])
 |none=>none
def mW(b:aO)(l:List dQ):List aI:=l.filterMap (zT b)
def GZ(b:aO)(s:dQ)(l:List dQ):mW b (s::l)=(match zT b s with|some f=>[f]|none=>[])++mW b l:=by unfold mW;rw[List.filterMap_cons];cases zT b s<;>rfl
def ajJ{b:aO}{v:List aI}(F:rU b v)(c:List dQ)(I:c.length<=1000)(o:∀s∈c,placeOf s.name≠none/\s.use=adw s.name):∀(m i:Nat)(a:List aI),i+m=c.length->a.length+m<=2000->
 TT.lim 110 ([.l (aG a),.l (c.map fU),.zq c.length,.zq i]++(iM b (aG v)).cells)=some [.zq 0,.l (aG (a++mW b (c.drop i)))]
 |0,i,a,hi,J=>by
  have h:¬((i:Int)<c.length):=by omega
  have e:c.drop i=[]:=ig;rw[e];have:mW b []=[]:=rfl;rw[this,qp,eY];simp only[bg,aX];refine au ?_;simp[h]
 |m+1,i,a,hi,J=>by
  have g:i<c.length:=by omega
  have h:((i:Int)<c.length):=by omega
  obtain⟨p,y⟩:∃p,placeOf c[i].name=some p:=by
   cases e:placeOf c[i].name with
   |some p=>exact⟨p,rfl⟩
   |none=>exact absurd e (o _ (gX g)).1
  have w:=axX F y;have q:c.drop i=c[i]::c.drop (i+1):=iC g;have j:(c.map fU)[i]? =some (fU c[i]):=by rw[iY,bT g];rfl
  have d:((i+1:Nat):Int)=(i:Int)+1:=by omega
  have z:=bF ((i:Int)+1);rw[q,GZ];have G:zT b c[i]=if(aZ b p).1=0/\(aZ b p).2=[]then none else some (.mk c[i].tag (dP p) (aZ b p).1 (aZ b p).2 []):=by unfold zT;rw[y]
  rw[G];have f:=ajJ F c I o m (i+1);generalize c[i]=s at *;clear G q y;have H:=pR a;have fn:aG []=[]:=by simp only[aG]
  have k:(sD s.tag (dP p) (aZ b p).1 (aZ b p).2 []).fP 5=true:=rfl;have l:GV.g [.zu s.tag,.zq (dP p),.zu (aZ b p).1,.s (aZ b p).2,.l []]=sD s.tag (dP p) (aZ b p).1 (aZ b p).2 []:=by unfold sD;rw[fn]
  have B:2*((aG a).length+1)*64<=281474976710656/\(aG a).length+1<=281474976710656:=by omega
  by_cases x:(aZ b p).1=0/\(aZ b p).2=[]
  ·rw[aj x];have f:=f a (by omega) (by omega);rw[eY,d]at f;rw[eY];simp only[bg,aX]at f⊢;clear k l B H;obtain⟨L,M⟩:=x;rw[L,M]at w;generalize aG a=A,aG v=r,c.map fU=N,dP p=O at *;refine au ?_;simp[h,j,lC,w,z,f]
  ·rw[ah x];have f:=f (a++[.mk s.tag (dP p) (aZ b p).1 (aZ b p).2 []]) (by omega) (by rw[eP,FT];omega);have u:aG (a++[.mk s.tag (dP p) (aZ b p).1 (aZ b p).2 []])=aG a++[sD s.tag (dP p) (aZ b p).1 (aZ b p).2 []]:=by rw[Vp];simp only[aG,qC];rfl
   rw[eY,d,u,List.append_assoc]at f;rw[eY];simp only[bg,aX]at f⊢;generalize P:aG (a++.mk s.tag (dP p) (aZ b p).1 (aZ b p).2 []::mW b (c.drop (i+1)))=R at *;clear P u H;generalize sD s.tag (dP p) (aZ b p).1 (aZ b p).2 []=E,aG a=A,aG v=r,c.map fU=N at *;generalize dP p=O,aZ b p=Q at *;obtain⟨n,t⟩:=Q;simp only at *;by_cases D:n=0
   ·have S:¬t=[]:=λe=>x ⟨D,e⟩;subst D;refine au ?_;simp[h,j,lC,w,S,l,k,B,z,f]
   ·refine au ?_;simp[h,j,lC,w,D,l,k,B,z,f]
def P6:∀(l:List aI)(w:Nat)(a:Int),jy w a l=0->(∀f∈l,f.tag≠0/\f.tag<=4294967296/\zL w f=0/\a<f.tag)/\l.Pairwise (λx y=>x.tag<y.tag)
 |[],w,a,_=>⟨by simp,List.Pairwise.nil⟩
 |f::l,w,a,h=>by
  unfold jy at h;by_cases h1:f.tag=0
  ·rw[aj h1]at h;exact absurd h (by decide)
  rw[ah h1]at h;by_cases d:4294967296<f.tag
  ·rw[aj d]at h;exact absurd h (by decide)
  rw[ah d]at h;by_cases i:f.tag<=a
  ·rw[aj i]at h;exact absurd h (by decide)
  rw[ah i]at h;by_cases c:zL w f=0;rotate_left
  ·rw[aj c]at h;exact absurd h c
  rw[ah (λe=>e c)]at h;obtain⟨j,k⟩:=P6 l w f.tag h;refine⟨λg b=>?_,iZ.2 ⟨λg b=>(j g b).2.2.2,k⟩⟩;rcases bH.1 b with rfl|b
  ·exact⟨h1,by omega,c,by omega⟩
  ·obtain⟨m,n,o,p⟩:=j g b;exact⟨m,n,o,by omega⟩
def Zp:∀(l:List aI)(w:Nat)(a:Int),(∀f∈l,f.tag≠0/\f.tag<=4294967296/\zL w f=0/\a<f.tag)->l.Pairwise (λx y=>x.tag<y.tag)->jy w a l=0
 |[],w,a,_,_=>by unfold jy;rfl
 |f::l,w,a,h,b=>by obtain⟨q1,i,d,j⟩:=h f (by simp);rw[iZ]at b;unfold jy;rw[ah q1,dA,dA,ah (λe=>e d)];refine Zp l w f.tag (λg c=>?_) b.2;obtain⟨r1,r2,r3,k⟩:=h g (by simp[c]);exact⟨r1,r2,r3,b.1 g c⟩
def aD3(k:Int):(zk k).Pairwise (λs t=>s.tag<t.tag)/\∀s∈zk k,1<=s.tag/\s.tag<=5:=by
 unfold zk;repeat' split
 all_goals first|(unfold sp1;decide)|(unfold sp2;decide)|(unfold E5;decide)|(unfold E8;decide)|(unfold E9;decide)|(unfold Fb;decide)|(unfold Fe;decide)|(unfold Fg;decide)|exact⟨List.Pairwise.nil,λs a=>by cases a⟩
def JE(k v:Int):(aW k v).Pairwise (λs t=>s.tag<t.tag)/\∀s∈aW k v,1<=s.tag/\s.tag<=5:=by obtain⟨a,b⟩:=aD3 k;exact⟨a.sublist aeb,λs c=>b s (BM.1 c).1⟩
def QI{b:aO}{s:dQ}{f:aI}(h:zT b s=some f):∃p,placeOf s.name=some p/\f=.mk s.tag (dP p) (aZ b p).1 (aZ b p).2 []/\¬((aZ b p).1=0/\(aZ b p).2=[]):=by
 unfold zT at h;cases c:placeOf s.name with
 |none=>rw[c]at h;cases h
 |some p=>
  rw[c]at h;simp only at h;by_cases a:(aZ b p).1=0/\(aZ b p).2=[]
  ·rw[aj a]at h;cases h
  ·rw[ah a]at h;injection h with h
   exact⟨p,rfl,h.symm,a⟩
def QJ{b:aO}{l:List dQ}{f:aI}(h:f∈mW b l):∃s∈l,∃p,placeOf s.name=some p/\f=.mk s.tag (dP p) (aZ b p).1 (aZ b p).2 []/\¬((aZ b p).1=0/\(aZ b p).2=[]):=by unfold mW at h;obtain⟨s,a,c⟩:=List.mem_filterMap.1 h;exact⟨s,a,QI c⟩
def Wl(b:aO):∀(l:List dQ),l.Pairwise (λs t=>s.tag<t.tag)->(mW b l).Pairwise (λx y=>x.tag<y.tag)
 |[],_=>List.Pairwise.nil
 |s::l,h=>by
  rw[iZ]at h;rw[GZ];have c:=Wl b l h.2;cases d:zT b s with
  |none=>exact c
  |some f=>obtain⟨p,-,rfl,-⟩:=QI d;refine iZ.2 ⟨λg e=>?_,c⟩;obtain⟨i,a,j,-,rfl,-⟩:=QJ e;exact h.1 i a
def aFv(b:aO)(p:Pl):(dP p=0/\(aZ b p).2=[])\/(dP p=1/\(aZ b p).1=0):=by cases p<;>simp[dP,aZ]
def aio(b:aO)(k v:Int):jy 0 0 (mW b (aW k v))=0:=by
 obtain⟨d,e⟩:=JE k v;refine Zp _ 0 0 (λf g=>?_) (Wl b _ d);obtain⟨s,h,p,-,rfl,-⟩:=QJ g;have:=e s h;refine⟨by show s.tag≠0;omega,by show s.tag<=_;omega,?_,by show 0<s.tag;omega⟩;unfold zL;rcases aFv b p with⟨a,c⟩|⟨a,c⟩
 ·rw[a,c];simp
 ·rw[a,c];simp
def Short(b:aO):Prop:=b.name.length<=600/\b.region.length<=600/\b.note.length<=600
def amd{b:aO}{a:List aI}(h:rU b a)(c:Short b)(p:Pl):(0<=(aZ b p).1/\(aZ b p).1<18446744073709551616)/\(aZ b p).2.length<=100000000:=by
 have q:=h.body;obtain⟨w1,e,f⟩:=c;cases p with
 |rem=>have g:=q.remaining;exact⟨by simp only[aZ];unfold zz;split<;>omega,by simp[aZ]⟩
 |allow=>refine⟨?_,by simp[aZ]⟩;simp only[aZ];split<;>omega
 |name=>exact⟨by simp[aZ],by simp only[aZ];omega⟩
 |region=>exact⟨by simp[aZ],by simp only[aZ];omega⟩
 |note=>exact⟨by simp[aZ],by simp only[aZ];omega⟩
 |d=>
  refine⟨by simp[aZ],?_⟩;simp only[aZ];have:=QH h.d;split
  ·simp
  ·omega
 |t=>
  refine⟨by simp[aZ],?_⟩;simp only[aZ];have:=ajE b.t h.t;split
  ·simp
  ·unfold EP;split
   ·simp
   ·simp only;omega
 |num k=>refine⟨?_,by simp[aZ]⟩;simp only[aZ];unfold pW;split<;>first|exact q.id|exact q.min|exact q.max|exact q.chosen|exact q.flags|exact q.cost|exact q.priority|exact q.deadline|exact q.retry|exact q.epoch|exact q.base|exact q.digest|exact q.lag|exact q.code|exact q.want
def aik{b:aO}{c:List aI}(h:rU b c)(d:Short b)(k v:Int):eU (mW b (aW k v)):=Vq λf e=>by
 obtain⟨s,g,p,-,rfl,-⟩:=QJ e;have i:=(JE k v).2 s g;have a:=amd h d p;have j:0<=dP p/\dP p<=1:=by cases p<;>simp[dP]
 simp only[uj,eU];refine⟨⟨?_,?_,?_,?_,a.1.1,a.1.2,a.2,?_⟩,trivial⟩;all_goals first|omega|simp
def aij(b:aO)(k v:Int):(mW b (aW k v)).length<=8:=kF (List.length_filterMap_le _ _) (G5 k v)
def ail(b:aO):∀l:List dQ,dH (mW b l)<=2*l.length
 |[]=>by simp[mW,dH]
 |s::l=>by
  rw[GZ];have c:=ail b l;cases a:zT b s with
  |none=>simp only[aX,gV];omega
  |some f=>obtain⟨p,-,rfl,-⟩:=QI a;simp only[bg,aX,dH,wB,gV];omega
def ain{b:aO}{c:List aI}(h:rU b c)(a:Short b):∀l:List dQ,wL (mW b l)<=100000040*l.length
 |[]=>by simp[mW,wL]
 |s::l=>by
  rw[GZ];have e:=ain h a l;cases d:zT b s with
  |none=>simp only[aX,gV];omega
  |some f=>obtain⟨p,-,rfl,-⟩:=QI d;have g:=(amd h a p).2;simp only[bg,aX,wL,wF,gV];omega
structure yQ(b:aO)(fl:List aI):Prop where
 msg:rU b fl
 short:Short b
 sz:dH fl<=900000
 w:wL fl<=2000000000
def Jf{b:aO}{a:List aI}{v:Int}(h:gq b a v=0):1<=v/\v<=3/\aW b.kind v≠[]/\jy 0 0 a=0/\∀f∈a,hasTag (aW b.kind v) f.tag=false:=by
 unfold gq at h;by_cases j:v<1
 ·rw[aj j]at h;exact absurd h (by decide)
 rw[ah j]at h;by_cases k:3<v
 ·rw[aj k]at h;exact absurd h (by decide)
 rw[ah k]at h;by_cases d:aW b.kind v=[]
 ·rw[aj d]at h;exact absurd h (by decide)
 rw[ah d]at h;by_cases l:iH.all (λn=>uJ (aW b.kind v) n ||qL b n)=false
 ·rw[aj l]at h;exact absurd h (by decide)
 rw[ah l]at h;by_cases g:oG b (aW b.kind v)≠0
 ·rw[aj g]at h;exact absurd h g
 rw[ah g]at h;by_cases i:I4 b≠0
 ·rw[aj i]at h;exact absurd h i
 rw[ah i]at h;unfold Oc at h;by_cases c:jy 0 0 a≠0
 ·rw[aj c]at h;exact absurd h c
 rw[ah c]at h;by_cases m:a.any (λf=>hasTag (aW b.kind v) f.tag)=true
 ·rw[aj m]at h;exact absurd h (by decide)
 refine⟨by omega,by omega,d,by simpa using c,λf o=>?_⟩;cases e:hasTag (aW b.kind v) f.tag with
 |false=>rfl
 |true=>exact absurd (List.any_eq_true.2 ⟨f,o,e⟩) m
def Uc{b:aO}{a:List aI}{v:Int}(h:gq b a v=0):((mW b (aW b.kind v)++a).map aI.tag).Nodup:=by
 obtain⟨-,-,-,d,i⟩:=Jf h;have j:=Wl b _ (JE b.kind v).1;have k:=(P6 a 0 0 d).2;rw[nM,List.nodup_append];have c:∀l:List aI,l.Pairwise (λx y=>x.tag<y.tag)->(l.map aI.tag).Nodup:=λl m=>by unfold List.Nodup;rw[List.pairwise_map];exact m.imp λh e=>by omega
 refine⟨c _ j,c _ k,λx n y o e=>?_⟩;obtain⟨f,q,rfl⟩:=rM.1 n;obtain⟨g,r,rfl⟩:=rM.1 o;obtain⟨s,t,p,-,rfl,-⟩:=QJ q;have:=i g r;unfold hasTag at this;have u:(aW b.kind v).any (λs=>decide (g.tag=s.tag))=true:=List.any_eq_true.2 ⟨s,t,Gq (show g.tag=s.tag from e.symm)⟩;rw[u]at this;cases this
def BZ(b:aO)(a:List aI)(v:Int):List aI:=xk (mW b (aW b.kind v)) a
def Vk(b:aO)(a:List aI)(v:Int):List aI×Int:=if gq b a v=0 then(BZ b a v,0)else([],gq b a v)
structure Yk(l:List aI):Prop where
 ok:eU l
 len:l.length<=1000000
 w:wL l<=1000000000000
 chk:jy 0 0 l=0
def aeO{b:aO}{c:List aI}{v:Int}(a:yQ b c)(h:gq b c v=0):Yk (BZ b c v):=by
 obtain⟨-,-,-,g,k⟩:=Jf h;obtain⟨e,i⟩:=WH (Uc h);have m:c.length<=900000:=by
  have:∀l:List aI,l.length<=dH l:=λl=>by
   induction l with
   |nil=>simp[dH]
   |cons f l n=>simp only[gV,dH];omega
  have:=this c;have:=a.sz;omega
 have o:=aij b b.kind v;have p:=ain a.msg a.short (aW b.kind v);have j:=G5 b.kind v;have q:=a.w;refine⟨atU e (atT (aik a.msg a.short _ _) a.msg.f8),?_,?_,?_⟩
 ·unfold BZ;rw[e.length_eq,eP];omega
 ·unfold BZ;rw[aFK e,aml];have:100000040*(aW b.kind v).length<=100000040*8:=YF _ j;omega
 ·refine Zp _ 0 0 (λf d=>?_) i;rcases jJ.1 (e.mem_iff.1 d)with d|d
  ·exact(P6 _ 0 0 (aio b b.kind v)).1 f d
  ·exact(P6 _ 0 0 g).1 f d
def aie{k v:Int}(h:aW k v≠[]):1<=k/\k<=8:=by
 by_cases c:1<=k/\k<=8
 ·exact c
 ·exfalso;apply h;unfold aW zk;rw[dA,dA,dA,dA,dA,dA,dA,dA];rfl
def ay2{b:aO}{a:List aI}(d:yQ b a)(v:Int):TT.lim 65 [iM b (aG a),.zq v]=some [.l (aG (Vk b a v).1),.zq (Vk b a v).2]:=by
 have f:=abk b a v d.msg.body d.msg.t.few d.msg.f8 d.msg.len;unfold Vk;by_cases c:gq b a v=0;rotate_left
 ·rw[ah c];have fn:aG []=[]:=by simp only[aG]
  rw[fn];generalize aG a=r,gq b a v=p at *;refine aT ?_;simp[lC,f,c]
 rw[aj c];rw[c]at f;obtain⟨g,h,e,l,-⟩:=Jf c;have m:=Wi b.kind v g h (by have:=mt (aip b.kind v g h).2 e;omega)
 have i:=ajJ d.msg (aW b.kind v) (by have:=G5 b.kind v;omega) (awC b.kind v) (aW b.kind v).length 0 [] (by omega) (by have:=G5 b.kind v;simp;omega);have fn:aG []=[]:=by simp only[aG]
 rw[dN,aX,eY,fn]at i;simp only[bg,aX,sW]at i;have j:=ail b (aW b.kind v);have n:=G5 b.kind v;have o:=azy _ a (aik d.msg d.short b.kind v) d.msg.f8 (by have:=aij b b.kind v;omega) d.msg.len (by have:=d.sz;omega) (aio b b.kind v) l (Uc c);have k:(((aW b.kind v).map fU).length:Int)=((aW b.kind v).length:Int):=by rw[gG]
 unfold BZ;generalize aG (xk (mW b (aW b.kind v)) a)=M,aG (mW b (aW b.kind v))=q,(aW b.kind v).map fU=s,((aW b.kind v).length:Int)=L,aG a=r at *;clear j n e l c d g h;refine aT ?_;simp[lC,f,m,k,i,o]
def bytesV(b:aO)(a:List aI)(v:Int):Q0:=aQ b.kind.toNat++dw (BZ b a v)
def wU(b:aO)(a:List aI)(v:Int):Q0×Int:=if gq b a v=0 then(if 65536<(bytesV b a v).length then([],4)else(bytesV b a v,0))else([],gq b a v)
def ay0{b:aO}{a:List aI}(j:yQ b a)(v:Int):TT.lim 64 [iM b (aG a),.zq v]=some [.s (wU b a v).1,.zq (wU b a v).2]:=by
 have d:=ay2 j v;unfold Vk at d;unfold wU;by_cases c:gq b a v=0;rotate_left
 ·rw[ah c]at d⊢;generalize aG a=r,gq b a v=t at *;refine aT ?_;simp[lC,d,c]
 rw[aj c]at d⊢;have f:=aeO j c;have g:=aFO (BZ b a v) f.ok f.len f.w f.chk;obtain⟨-,-,h,-,-⟩:=Jf c;obtain⟨u,w⟩:=aie h;have k:=zf b.kind.toNat (by omega);have s:=oJ (n:=b.kind.toNat) (by omega);rw[show((b.kind.toNat:Nat):Int)=b.kind by omega]at k;have l:=jA (b.kind);unfold bytesV;rw[eP];clear f c j h;generalize BZ b a v=m,aQ b.kind.toNat=V,aG a=r at *;generalize aG m=G,dw m=i at *;by_cases o:65536<i.length
 ·rw[aj o]at g;rw[nI];refine aT ?_;simp[lC,d,g]
 ·rw[ah o]at g;have p:(V.length:Int)+i.length<=9223372036854775807:=by omega
  by_cases q:65536<V.length+i.length
  ·have e:(65536:Int)<V.length+i.length:=by omega
   rw[aj q];refine aT ?_;simp[lC,d,g,l,k,e,p]
  ·have e:¬(65536:Int)<V.length+i.length:=by omega
   rw[ah q];refine aT ?_;simp[lC,d,g,l,k,e,p]
def wrap32{n:Int}(h0:0<=n)(h1:n<4294967296):IntKind.u32.wrap n=n:=by
 have a:∀y:Int,IntKind.u32.wrap y=y%4294967296:=λy=>by simp[IntKind.wrap,IntKind.signed,IntKind.bits]
 rw[a];omega
def ofInt32(a:Nat)(b:a<4294967296):(BitVec.ofInt 32 (a:Int)).toNat=a:=by rw[vw];omega
def Yi{a b:Nat}(c:a<4294967296)(d:b<4294967296):a ^^^ b<4294967296:=Nat.xor_lt_two_pow (n:=32) c d
def x32(a b:Nat)(c:a<4294967296)(d:b<4294967296):bV .xor .u32 (a:Int) (b:Int)=some (.i .u32 ((a ^^^ b:Nat):Int)):=by
 show some (GV.i IntKind.u32 (IntKind.u32.wrap ((BitVec.ofInt 32 (a:Int) ^^^ BitVec.ofInt 32 (b:Int)).toNat:Int)))=_
 have e:=Yi c d;rw[BitVec.toNat_xor,ofInt32 a c,ofInt32 b d,wrap32 (by omega) (by omega)]
def anb(a:Nat)(b:a<4294967296):bV .and .u32 (a:Int) 15=some (.i .u32 ((a%16:Nat):Int)):=by
 have h:=ofInt32 15 (by decide);show some (GV.i IntKind.u32 (IntKind.u32.wrap ((BitVec.ofInt 32 (a:Int) &&& BitVec.ofInt 32 15).toNat:Int)))=_
 have e:a &&& 15=a%16:=aen a 4;rw[Yn,ofInt32 a b,show(BitVec.ofInt 32 15).toNat=15 from h,e,wrap32 (by omega) (by omega)]
def alm(a:Nat):kD .shr .u32 (a:Int) 4=some (.i .u32 ((a:Int)/16)):=by
 show some (GV.i IntKind.u32 ((a:Int).fdiv (2^4)))=_
 rw[FN _ (by decide)];rfl
def XG{r:Nat}(h:r<4294967296):bD r<4294967296:=by
 unfold bD;split
 ·exact Yi (by omega) (by decide)
 ·omega
def ac4{r:Nat}(h:r<4294967296):gy r<4294967296:=XG (XG (XG (XG h)))
def nib(y:Nat)(f:y<4294967296):(bV .and .u32 (y:Int) 15=some (.i .u32 0)/\bV .xor .u32 ((y:Int)/16) 0=some (.i .u32 (gy y:Nat)))\/(bV .and .u32 (y:Int) 15=some (.i .u32 1)/\bV .xor .u32 ((y:Int)/16) 498536548=some (.i .u32 (gy y:Nat)))\/(bV .and .u32 (y:Int) 15=some (.i .u32 2)/\bV .xor .u32 ((y:Int)/16) 997073096=some (.i .u32 (gy y:Nat)))\/(bV .and .u32 (y:Int) 15=some (.i .u32 3)/\bV .xor .u32 ((y:Int)/16) 651767980=some (.i .u32 (gy y:Nat)))\/(bV .and .u32 (y:Int) 15=some (.i .u32 4)/\bV .xor .u32 ((y:Int)/16) 1994146192=some (.i .u32 (gy y:Nat)))\/(bV .and .u32 (y:Int) 15=some (.i .u32 5)/\bV .xor .u32 ((y:Int)/16) 1802195444=some (.i .u32 (gy y:Nat)))\/(bV .and .u32 (y:Int) 15=some (.i .u32 6)/\bV .xor .u32 ((y:Int)/16) 1303535960=some (.i .u32 (gy y:Nat)))\/(bV .and .u32 (y:Int) 15=some (.i .u32 7)/\bV .xor .u32 ((y:Int)/16) 1342533948=some (.i .u32 (gy y:Nat)))\/(bV .and .u32 (y:Int) 15=some (.i .u32 8)/\bV .xor .u32 ((y:Int)/16) 3988292384=some (.i .u32 (gy y:Nat)))\/(bV .and .u32 (y:Int) 15=some (.i .u32 9)/\bV .xor .u32 ((y:Int)/16) 4027552580=some (.i .u32 (gy y:Nat)))\/(bV .and .u32 (y:Int) 15=some (.i .u32 10)/\bV .xor .u32 ((y:Int)/16) 3604390888=some (.i .u32 (gy y:Nat)))\/(bV .and .u32 (y:Int) 15=some (.i .u32 11)/\bV .xor .u32 ((y:Int)/16) 3412177804=some (.i .u32 (gy y:Nat)))\/(bV .and .u32 (y:Int) 15=some (.i .u32 12)/\bV .xor .u32 ((y:Int)/16) 2607071920=some (.i .u32 (gy y:Nat)))\/(bV .and .u32 (y:Int) 15=some (.i .u32 13)/\bV .xor .u32 ((y:Int)/16) 2262029012=some (.i .u32 (gy y:Nat)))\/(bV .and .u32 (y:Int) 15=some (.i .u32 14)/\bV .xor .u32 ((y:Int)/16) 2685067896=some (.i .u32 (gy y:Nat)))\/(bV .and .u32 (y:Int) 15=some (.i .u32 15)/\bV .xor .u32 ((y:Int)/16) 3183342108=some (.i .u32 (gy y:Nat))):=by
 have b:=anb y f;have c:∀T:Nat,T<4294967296->bV .xor .u32 ((y/16:Nat):Int) (T:Int)=some (.i .u32 ((y/16 ^^^ T:Nat):Int)):=λT g=>x32 _ T (by omega) g;have d:y%16=0\/y%16=1\/y%16=2\/y%16=3\/y%16=4\/y%16=5\/y%16=6\/y%16=7\/y%16=8\/y%16=9\/y%16=10\/y%16=11\/y%16=12\/y%16=13\/y%16=14\/y%16=15:=by omega
 rcases d with h|h|h|h|h|h|h|h|h|h|h|h|h|h|h|h
 ·refine .inl ⟨?_,?_⟩
  ·rw[b,h];rfl
  ·have e:=aD8 (y/16);rw[show 16*(y/16)=y by omega]at e;rw[e];have a:((y/16:Nat):Int)=(y:Int)/16:=by omega
   rw[<-a];exact c 0 (by decide)
 ·refine .inr (.inl ⟨?_,?_⟩)
  ·rw[b,h];rfl
  ·have e:=aD9 (y/16);rw[show 16*(y/16)+1=y by omega]at e;rw[e];have a:((y/16:Nat):Int)=(y:Int)/16:=by omega
   rw[<-a];exact c 498536548 (by decide)
 ·refine .inr (.inr (.inl ⟨?_,?_⟩))
  ·rw[b,h];rfl
  ·have e:=aEg (y/16);rw[show 16*(y/16)+2=y by omega]at e;rw[e];have a:((y/16:Nat):Int)=(y:Int)/16:=by omega
   rw[<-a];exact c 997073096 (by decide)
 ·refine .inr (.inr (.inr (.inl ⟨?_,?_⟩)))
  ·rw[b,h];rfl
  ·have e:=aEh (y/16);rw[show 16*(y/16)+3=y by omega]at e;rw[e];have a:((y/16:Nat):Int)=(y:Int)/16:=by omega
   rw[<-a];exact c 651767980 (by decide)
 ·refine .inr (.inr (.inr (.inr (.inl ⟨?_,?_⟩))))
  ·rw[b,h];rfl
  ·have e:=aEi (y/16);rw[show 16*(y/16)+4=y by omega]at e;rw[e];have a:((y/16:Nat):Int)=(y:Int)/16:=by omega
   rw[<-a];exact c 1994146192 (by decide)
 ·refine .inr (.inr (.inr (.inr (.inr (.inl ⟨?_,?_⟩)))))
  ·rw[b,h];rfl
  ·have e:=aEj (y/16);rw[show 16*(y/16)+5=y by omega]at e;rw[e];have a:((y/16:Nat):Int)=(y:Int)/16:=by omega
   rw[<-a];exact c 1802195444 (by decide)
 ·refine .inr (.inr (.inr (.inr (.inr (.inr (.inl ⟨?_,?_⟩))))))
  ·rw[b,h];rfl
  ·have e:=aEk (y/16);rw[show 16*(y/16)+6=y by omega]at e;rw[e];have a:((y/16:Nat):Int)=(y:Int)/16:=by omega
   rw[<-a];exact c 1303535960 (by decide)
 ·refine .inr (.inr (.inr (.inr (.inr (.inr (.inr (.inl ⟨?_,?_⟩)))))))
  ·rw[b,h];rfl
  ·have e:=aEl (y/16);rw[show 16*(y/16)+7=y by omega]at e;rw[e];have a:((y/16:Nat):Int)=(y:Int)/16:=by omega
   rw[<-a];exact c 1342533948 (by decide)
 ·refine .inr (.inr (.inr (.inr (.inr (.inr (.inr (.inr (.inl ⟨?_,?_⟩))))))))
  ·rw[b,h];rfl
  ·have e:=aEm (y/16);rw[show 16*(y/16)+8=y by omega]at e;rw[e];have a:((y/16:Nat):Int)=(y:Int)/16:=by omega
   rw[<-a];exact c 3988292384 (by decide)
 ·refine .inr (.inr (.inr (.inr (.inr (.inr (.inr (.inr (.inr (.inl ⟨?_,?_⟩)))))))))
  ·rw[b,h];rfl
  ·have e:=aEn (y/16);rw[show 16*(y/16)+9=y by omega]at e;rw[e];have a:((y/16:Nat):Int)=(y:Int)/16:=by omega
   rw[<-a];exact c 4027552580 (by decide)
 ·refine .inr (.inr (.inr (.inr (.inr (.inr (.inr (.inr (.inr (.inr (.inl ⟨?_,?_⟩))))))))))
  ·rw[b,h];rfl
  ·have e:=aEa (y/16);rw[show 16*(y/16)+10=y by omega]at e;rw[e];have a:((y/16:Nat):Int)=(y:Int)/16:=by omega
   rw[<-a];exact c 3604390888 (by decide)
 ·refine .inr (.inr (.inr (.inr (.inr (.inr (.inr (.inr (.inr (.inr (.inr (.inl ⟨?_,?_⟩)))))))))))
  ·rw[b,h];rfl
  ·have e:=aEb (y/16);rw[show 16*(y/16)+11=y by omega]at e;rw[e];have a:((y/16:Nat):Int)=(y:Int)/16:=by omega
   rw[<-a];exact c 3412177804 (by decide)
 ·refine .inr (.inr (.inr (.inr (.inr (.inr (.inr (.inr (.inr (.inr (.inr (.inr (.inl ⟨?_,?_⟩))))))))))))
  ·rw[b,h];rfl
  ·have e:=aEc (y/16);rw[show 16*(y/16)+12=y by omega]at e;rw[e];have a:((y/16:Nat):Int)=(y:Int)/16:=by omega
   rw[<-a];exact c 2607071920 (by decide)
 ·refine .inr (.inr (.inr (.inr (.inr (.inr (.inr (.inr (.inr (.inr (.inr (.inr (.inr (.inl ⟨?_,?_⟩)))))))))))))
  ·rw[b,h];rfl
  ·have e:=aEd (y/16);rw[show 16*(y/16)+13=y by omega]at e;rw[e];have a:((y/16:Nat):Int)=(y:Int)/16:=by omega
   rw[<-a];exact c 2262029012 (by decide)
 ·refine .inr (.inr (.inr (.inr (.inr (.inr (.inr (.inr (.inr (.inr (.inr (.inr (.inr (.inr (.inl ⟨?_,?_⟩))))))))))))))
  ·rw[b,h];rfl
  ·have e:=aEe (y/16);rw[show 16*(y/16)+14=y by omega]at e;rw[e];have a:((y/16:Nat):Int)=(y:Int)/16:=by omega
   rw[<-a];exact c 2685067896 (by decide)
 ·refine .inr (.inr (.inr (.inr (.inr (.inr (.inr (.inr (.inr (.inr (.inr (.inr (.inr (.inr (.inr (⟨?_,?_⟩)))))))))))))))
  ·rw[b,h];rfl
  ·have e:=aEf (y/16);rw[show 16*(y/16)+15=y by omega]at e;rw[e];have a:((y/16:Nat):Int)=(y:Int)/16:=by omega
   rw[<-a];exact c 3183342108 (by decide)
def PE(r c:Nat):Nat:=gy (gy (r ^^^ c))
def afh{r c:Nat}(a:r<4294967296)(b:c<256):PE r c<4294967296:=ac4 (ac4 (Yi a (by omega)))
def OC(r:Nat)(s:Q0):Nat:=s.foldl (λr c=>PE r c.toNat) r
def alF:∀(s:Q0)(r:Nat),r<4294967296->OC r s<4294967296
 |[],r,h=>h
 |c::s,r,h=>alF s _ (afh h (by have:=c.toNat_lt;omega))
set_option maxHeartbeats 8000000 in
def ayy(r:Nat)(j:r<4294967296)(c:UInt8)(s:Q0)(k l m:GV)(L:Int)(i:Nat)(f:Q1)(h:(i:Int)<L)(g:s[i]? =some c)(q:IntKind.i64.wrap ((i:Int)+1)=(i:Int)+1)
 (o:TT.lim 133 [.i .u32 (PE r c.toNat:Nat),.s s,k,l,m,.zq L,.zq ((i:Int)+1),.i .u32 0,.i .u32 498536548,.i .u32 997073096,.i .u32 651767980,.i .u32 1994146192,.i .u32 1802195444,.i .u32 1303535960,.i .u32 1342533948,.i .u32 3988292384,.i .u32 4027552580,.i .u32 3604390888,.i .u32 3412177804,.i .u32 2607071920,.i .u32 2262029012,.i .u32 2685067896,.i .u32 3183342108]=some f):TT.lim 133 [.i .u32 (r:Nat),.s s,k,l,m,.zq L,.zq i,.i .u32 0,.i .u32 498536548,.i .u32 997073096,.i .u32 651767980,.i .u32 1994146192,.i .u32 1802195444,.i .u32 1303535960,.i .u32 1342533948,.i .u32 3988292384,.i .u32 4027552580,.i .u32 3604390888,.i .u32 3412177804,.i .u32 2607071920,.i .u32 2262029012,.i .u32 2685067896,.i .u32 3183342108]=some f:=by
 have D:=c.toNat_lt;have t:=wrap32 (n:=(c.toNat:Int)) (by omega) (by omega);have X:=x32 r c.toNat j (by omega);have p:=Yi j (show c.toNat<4294967296 by omega);unfold PE at o;generalize r ^^^ c.toNat=x at *;have u:=alm x;have v:=ac4 p;have w:=nib x p;generalize gy x=y at *;have A:=alm y;have B:=nib y v;generalize gy y=z at *;rcases w with⟨a,b⟩|⟨a,b⟩|⟨a,b⟩|⟨a,b⟩|⟨a,b⟩|⟨a,b⟩|⟨a,b⟩|⟨a,b⟩|⟨a,b⟩|⟨a,b⟩|⟨a,b⟩|⟨a,b⟩|⟨a,b⟩|⟨a,b⟩|⟨a,b⟩|⟨a,b⟩
 all_goals as_aux_lemma=>
  refine au ?_;simp -implicitDefEqProofs[h,g,t,X,a,u,b];rcases B with⟨d,e⟩|⟨d,e⟩|⟨d,e⟩|⟨d,e⟩|⟨d,e⟩|⟨d,e⟩|⟨d,e⟩|⟨d,e⟩|⟨d,e⟩|⟨d,e⟩|⟨d,e⟩|⟨d,e⟩|⟨d,e⟩|⟨d,e⟩|⟨d,e⟩|⟨d,e⟩
  all_goals simp -implicitDefEqProofs[d,A,e,q,o]
def ajA(s:Q0)(n:s.length<=100000000)(c d f:GV):∀(m i:Nat)(r:Nat),i+m=s.length->r<4294967296->
 TT.lim 133 [.i .u32 (r:Nat),.s s,c,d,f,.zq s.length,.zq i,.i .u32 0,.i .u32 498536548,.i .u32 997073096,.i .u32 651767980,.i .u32 1994146192,.i .u32 1802195444,.i .u32 1303535960,.i .u32 1342533948,.i .u32 3988292384,.i .u32 4027552580,.i .u32 3604390888,.i .u32 3412177804,.i .u32 2607071920,.i .u32 2262029012,.i .u32 2685067896,.i .u32 3183342108]=some [.zq 0,.i .u32 (OC r (s.drop i):Nat)]
 |0,i,r,hi,g=>by
  have e:s.drop i=[]:=ig;have h:¬((i:Int)<s.length):=by omega
  rw[e];show _=some [GV.zq 0,.i .u32 (r:Nat)]
  refine au ?_;simp[h]
 |m+1,i,r,hi,g=>by
  have b:i<s.length:=by omega
  have j:s.drop i=s[i]::s.drop (i+1):=iC b;have k:s[i]? =some s[i]:=bT b;have a:((i+1:Nat):Int)=(i:Int)+1:=by omega
  have o:=bF ((i:Int)+1);have l:=ajA s n c d f m (i+1) (PE r s[i].toNat) (by omega) (afh g (by have:=s[i].toNat_lt;omega));rw[a]at l;rw[j];exact ayy r g s[i] s c d f s.length i _ (by omega) k o l
def ajr(a:Nat)(b:a<4294967296):bV .xor .u32 4294967295 (a:Int)=some (.i .u32 ((4294967295-a:Nat):Int)):=by
 show some (GV.i IntKind.u32 (IntKind.u32.wrap ((BitVec.ofInt 32 4294967295 ^^^ BitVec.ofInt 32 (a:Int)).toNat:Int)))=_
 have e:BitVec.ofInt 32 4294967295=BitVec.allOnes 32:=by decide
 rw[e,BitVec.xor_comm,adQ,adO,ofInt32 a b,wrap32 (by omega) (by omega)]
def iU(s:Q0):Nat:=4294967295-OC 4294967295 s
def afY(s:Q0):iU s<4294967296:=by unfold iU;omega
def aEx:TT.lim 131 []=some [.g [.i .u32 0,.i .u32 498536548,.i .u32 997073096,.i .u32 651767980,.i .u32 1994146192,.i .u32 1802195444,.i .u32 1303535960,.i .u32 1342533948,.i .u32 3988292384,.i .u32 4027552580,.i .u32 3604390888,.i .u32 3412177804,.i .u32 2607071920,.i .u32 2262029012,.i .u32 2685067896,.i .u32 3183342108]]:=Bz (Ds:=Ds) (f:=XI) rfl rfl
def ZF(s:Q0)(d:s.length<=100000000):TT.lim 129 [.l [.s s]]=some [.i .u32 (iU s:Nat)]:=by
 have a:=ajA s d (.l [.s s]) (.zq 1) (.zq 0) s.length 0 4294967295 (by omega) (by decide);rw[dN]at a;have a:TT.lim 133 [.i .u32 4294967295,.s s,.l [.s s],.zq 1,.zq 0,.zq s.length,.zq 0,.i .u32 0,.i .u32 498536548,.i .u32 997073096,.i .u32 651767980,.i .u32 1994146192,.i .u32 1802195444,.i .u32 1303535960,.i .u32 1342533948,.i .u32 3988292384,.i .u32 4027552580,.i .u32 3604390888,.i .u32 3412177804,.i .u32 2607071920,.i .u32 2262029012,.i .u32 2685067896,.i .u32 3183342108]=some [.zq 0,.i .u32 (OC 4294967295 s:Nat)]:=a;have b:=alF s 4294967295 (by decide);have e:=ajr (OC 4294967295 s) b;unfold iU;have f:=aEx;have w0:IntKind.i64.wrap 1=1:=by decide
 generalize OC 4294967295 s=Z at *;have g:TT.lim 132 [.i .u32 (Z:Nat),.l [.s s],.zq 1,.zq 1,.i .u32 0,.i .u32 498536548,.i .u32 997073096,.i .u32 651767980,.i .u32 1994146192,.i .u32 1802195444,.i .u32 1303535960,.i .u32 1342533948,.i .u32 3988292384,.i .u32 4027552580,.i .u32 3604390888,.i .u32 3412177804,.i .u32 2607071920,.i .u32 2262029012,.i .u32 2685067896,.i .u32 3183342108]=some [.zq 0,.i .u32 (Z:Nat)]:=by refine au ?_;simp
 have h:TT.lim 132 [.i .u32 4294967295,.l [.s s],.zq 1,.zq 0,.i .u32 0,.i .u32 498536548,.i .u32 997073096,.i .u32 651767980,.i .u32 1994146192,.i .u32 1802195444,.i .u32 1303535960,.i .u32 1342533948,.i .u32 3988292384,.i .u32 4027552580,.i .u32 3604390888,.i .u32 3412177804,.i .u32 2607071920,.i .u32 2262029012,.i .u32 2685067896,.i .u32 3183342108]=some [.zq 0,.i .u32 (Z:Nat)]:=by refine au ?_;simp[a,w0,g]
 have i:bV .xor .u32 4294967295 0=some (.i .u32 4294967295):=ajr 0 (by decide);have j:∀n:Int,X7 .xor (some (.i .u32 n))=bV .xor .u32 4294967295 n:=λ_=>rfl;have c:TT.lim 130 [.i .u32 0,.l [.s s]]=some [.i .u32 (4294967295-Z:Nat)]:=by refine aT ?_;simp[f,j,i,h,e]
 refine aT ?_;simp[c]
def SB(n:Int):IntKind.u8.wrap n=n%256:=by simp[IntKind.wrap,IntKind.signed,IntKind.bits]
def le4(n:Nat):Q0:=[UInt8.ofNat (n%256),UInt8.ofNat (n/256%256),UInt8.ofNat (n/65536%256),UInt8.ofNat (n/16777216%256)]
def jf(p:Q0):Q0:=[81,70]++aQ p.length++p++le4 (iU p)
def awM(n:Nat):ou [.i .u8 ((n:Int)%256),.i .u8 ((n:Int)/256%256),.i .u8 ((n:Int)/65536%256),.i .u8 ((n:Int)/16777216%256)]=some (le4 n):=by
 have a:∀(x:Int)(r:Q1),0<=x->x<256->ou (.i .u8 x::r)=(ou r).map (UInt8.ofNat x.toNat::·):=λx r b c=>by
  show(if _ then _ else _)=_
  rw[aj ⟨b,c⟩]
 rw[a _ _ (by omega) (by omega),a _ _ (by omega) (by omega),a _ _ (by omega) (by omega),a _ _ (by omega) (by omega)];show some _=_
 unfold le4;congr 5<;>omega
def aDN(a:Nat):kD .shr .u32 (a:Int) 8=some (.i .u32 ((a:Int)/256)):=by
 show some (GV.i IntKind.u32 ((a:Int).fdiv (2^8)))=_
 rw[FN _ (by decide)];rfl
def aDJ(a:Nat):kD .shr .u32 (a:Int) 16=some (.i .u32 ((a:Int)/65536)):=by
 show some (GV.i IntKind.u32 ((a:Int).fdiv (2^16)))=_
 rw[FN _ (by decide)];rfl
def aDL(a:Nat):kD .shr .u32 (a:Int) 24=some (.i .u32 ((a:Int)/16777216)):=by
 show some (GV.i IntKind.u32 ((a:Int).fdiv (2^24)))=_
 rw[FN _ (by decide)];rfl
def ams(p:Q0)(r:p.length<=65536):TT.lim 128 [.s p]=some [.s (jf p),.zq 0]:=by
 have c:=ZF p (by omega);have d:=afY p;have e:=zf p.length (by omega);have f:=oJ (n:=p.length) (by omega);have g:=jA ((p.length:Int));have h:¬(65536:Int)<p.length:=by omega
 have i:(2:Int)+(aQ p.length).length<=9223372036854775807:=by omega
 have j:((aQ p.length).length:Int)+1+1+p.length<=9223372036854775807:=by omega
 have k:((aQ p.length).length:Int)+p.length+1+1+4<=9223372036854775807:=by omega
 unfold jf;have l:=awM (iU p);have m:(le4 (iU p)).length=4:=rfl;have s8:=aDN (iU p);have a:=aDJ (iU p);have b:=aDL (iU p);generalize iU p=n,aQ p.length=V at *;have w0:=SB (n:Int);have w1:=SB ((n:Int)/256);have o:=SB ((n:Int)/65536);have q:=SB ((n:Int)/16777216);generalize le4 n=s,(n:Int)%256=t,(n:Int)/256%256=u,(n:Int)/65536%256=v,(n:Int)/16777216%256=w at *;refine aT ?_;simp -implicitDefEqProofs[-List.append_assoc,h,c,e,g,s8,a,b,w0,w1,o,q,l,m,i,j,k]
def Qh(b:aO)(a:List aI)(v:Int):(wU b a v).1.length<=65536:=by
 unfold wU;split
 ·split
  ·simp
  ·simp only;omega
 ·simp
