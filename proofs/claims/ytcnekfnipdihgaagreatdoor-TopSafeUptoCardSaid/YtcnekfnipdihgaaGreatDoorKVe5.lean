/- What the trees compute: plain laws. -/
import Derived.Test.YtcnekfnipdihgaaGreatDoorKVe4
set_option linter.all false
namespace Go.Proofs.YtcnekfnipdihgaaGreatDoor
open Go Go.aP
set_option maxRecDepth 100000
namespace V
mutual
def QX:aK->List UInt8
 |.mk t y n s k=>aS (4*t+y).toNat++(if y=0 then aS n.toNat else if y=1 then aS s.length++s else aS (dJ k).length++dJ k)
def dJ:List aK->List UInt8
 |[]=>[]
 |f::l=>QX f++dJ l
end
mutual
def wF:aK->Nat
 |.mk _ _ _ s k=>s.length+40+wL k
def wL:List aK->Nat
 |[]=>0
 |f::l=>wF f+wL l
end
mutual
def Io:aK->Prop
 |.mk t y n s k=>(1<=t/\t<=4294967296)/\((y=0/\s=[]/\k=[])\/(y=1/\n=0/\k=[])\/(y=2/\n=0/\s=[]))/\uK k
def uK:List aK->Prop
 |[]=>True
 |f::l=>Io f/\uK l
end
def TB:∀{l:List aK},uK l->∀f∈l,Io f
 |f::l,h,g,a=>by
  simp only[uK]at h;rcases bJ.1 a with rfl|a
  ·exact h.1
  ·exact TB h.2 g a
def Vm:∀(N:Nat)(l:List aK),dO l<N->fB l->∀w a,jJ w a l=0->0<=a->uK l
 |0,l,h,_,_,_,_,_=>ah
 |N+1,[],_,_,_,_,_,_=>by simp only[uK]
 |N+1,.mk t y n s k::l,j,d,w,a,h,m=>by
  simp only[dO,wR]at j;simp only[fB,uG]at d;unfold jJ at h;by_cases h1:(aK.mk t y n s k).tag=0
  ·rw[au h1]at h;exact absurd h aU
  rw[aj h1]at h;by_cases g:4294967296<(aK.mk t y n s k).tag
  ·rw[au g]at h;exact absurd h aU
  rw[aj g]at h;by_cases i:(aK.mk t y n s k).tag<=a
  ·rw[au i]at h;exact absurd h aU
  rw[aj i]at h;by_cases b:zY w (.mk t y n s k)=0;rotate_left
  ·rw[au b]at h;exact absurd h b
  rw[aj (λe=>e b)]at h;have h1:¬t=0:=h1;have g:¬4294967296<t:=g;have i:¬t<=a:=i;simp only[uK,Io];refine⟨⟨ah,?_,?_⟩,Vm N l ah d.2 w t h ah⟩
  ·simp only[zY]at b;split at b
   ·rename_i f
    split at b
    ·rename_i c;exact .inl ⟨f,c⟩
    ·cases b
   ·split at b
    ·rename_i f
     split at b
     ·rename_i c;exact .inr (.inl ⟨f,c⟩)
     ·cases b
    ·split at b
     ·rename_i f
      split at b
      ·rename_i c;exact .inr (.inr ⟨f,c⟩)
      ·cases b
     ·cases b
  ·simp only[zY]at b;split at b
   ·split at b
    ·rename_i c;rw[c.2];simp only[uK]
    ·cases b
   ·split at b
    ·split at b
     ·rename_i c;rw[c.2];simp only[uK]
     ·cases b
    ·split at b
     ·split at b
      ·split at b
       ·cases b
       ·exact Vm N k ah d.1.2 _ _ b ah
      ·cases b
     ·cases b
def NK:∀(N:Nat)(l:List aK),dO l<N->fB l->uK l->wL l<=1000000000000->(dJ l).length<=wL l
 |0,l,h,_,_,_=>ah
 |N+1,[],_,_,_,_=>by simp[dJ]
 |N+1,.mk t y n s k::l,c,b,a,d=>by
  simp only[dO,wR]at c;simp only[fB,uG]at b;simp only[uK,Io]at a;simp only[wL,wF]at d⊢;have h1:=NK N l ah b.2 a.2 ah;have e:=NK N k ah b.1.2 a.1.2.2 ah;simp only[dJ,QX,dM];have f:=oU (n:=(4*t+y).toNat) (by rcases a.1.2.1 with h|h|h<;>omega);have g:=oU (n:=n.toNat) ah;have i:=oU (n:=s.length) ah;have j:=oU (n:=(dJ k).length) ah;split
  ·omega
  ·split
   ·rw[dM];omega
   ·rw[dM];omega
def aii(t y:Int)(h:1<=t/\t<=4294967296)(j:0<=y/\y<4):kM .shl .u64 t 2=some (.zu (4*t))/\IntKind.u64.wrap y=y/\dh .or .u64 (4*t) y=some (.zu (4*t+y)):=by
 have a:∀y:Int,IntKind.u64.wrap y=y%18446744073709551616:=λy=>by simp[IntKind.wrap,IntKind.signed,IntKind.bits]
 have c:IntKind.u64.bits=64:=rfl;refine⟨?_,by rw[a];omega,?_⟩
 ·have d:kM .shl .u64 t 2=some (.zu (IntKind.u64.wrap (t*2^2))):=rfl;rw[d,a];congr 2;omega
 ·simp only[dh,a,c];obtain⟨T,rfl⟩:∃T:Nat,t=(T:Int):=⟨t.toNat,ah⟩
  obtain⟨Y,rfl⟩:∃Y:Nat,y=(Y:Int):=⟨y.toNat,ah⟩
  have e:(BitVec.ofInt 64 (4*(T:Int))).toNat=4*T:=by rw[vS];omega
  have f:(BitVec.ofInt 64 (Y:Int)).toNat=Y:=by rw[vS];omega
  have g:4*T |||Y=4*T+Y:=(ani (i:=2) (b:=Y) ah T).symm;show some (GV.i IntKind.u64 (((BitVec.ofInt 64 (4*(T:Int)) |||BitVec.ofInt 64 (Y:Int)).toNat:Int)%18446744073709551616))=_
  rw[aej,e,f,g];congr 2;omega
def aaL{t y n:Int}{s:Q2}{k:List aK}(h:Io (.mk t y n s k)):1<=t/\t<=4294967296/\0<=y/\y<3/\(y=0\/y=1\/y=2)/\uK k:=by simp only[Io]at h;rcases h.2.1 with h1|h1|h1<;>exact⟨h.1.1,h.1.2,ah,ah,ah,h.2.2⟩
def adA:∀(N:Nat)(l:List aK),dO l<N->fB l->uK l->l.length<=1000000->wL l<=1000000000000->TT.lim 129 [.l (aI l)]=some [.zq (dJ l).length]
 |0,l,h,_,_,_,_=>ah
 |N+1,l,hN,w,x,M,hw=>by
  have g:=qh l;have loop:∀m i,i+m=l.length->∀b:Nat,b+wL (l.drop i)<=1000000000000->TT.lim 130 [.l (aI l),.zq b,.zq l.length,.zq i]=some [.zq 0,.zq ((b+(dJ (l.drop i)).length:Nat):Int)]:=by
   intro m;induction m with
   |zero=>intro i hi b c;have z:l.drop i=[]:=iE;have h:¬((i:Int)<l.length):=ah;rw[z];simp only[dJ,kF,oW];refine aB ?_;simp[h]
   |succ m Q=>
    intro i hi b c;obtain⟨t,y,n,s,k,g1,D,R,E⟩:=G7 (l:=l) (i:=i) ah;have u:=G8 w _ E;have S:=TB x _ E;simp only[uG]at u;obtain⟨T,U,W,y2,X,O⟩:=aaL S;have Y:=YC E;simp only[wR]at Y;rw[R]at c⊢;simp only[wL,wF]at c;have Z:=adA N k ah u.2 O u.1.2.2.2.2.2.2.2 ah;have aa:=NK (dO k+1) k ah u.2 O ah;obtain⟨F,G,H⟩:=aii t y ⟨T,U⟩ ⟨W,ah⟩;have v:=O0 (4*t+y).toNat ah;have P:=O0 n.toNat ah;have v3:=O0 s.length ah;have v4:=O0 (dJ k).length ah;have z1:=Ir (n:=(4*t+y).toNat) ah;have z2:=Ir (n:=n.toNat) ah;have z3:=Ir (n:=s.length) ah;have z4:=Ir (n:=(dJ k).length) ah;rw[(ah:(((4*t+y).toNat:Nat):Int)=4*t+y)]at v;rw[(ah:((n.toNat:Nat):Int)=n)]at P;have j:((i+1:Nat):Int)=(i:Int)+1:=ah;have o:=bI ((i:Int)+1);have h:((i:Int)<l.length):=ah;have e:=λa ha=>Q (i+1) ah a ha;simp only[j]at e;have z:(aS (4*t+y).toNat).length=fZ (4*t+y).toNat:=rfl;have e2:(aS n.toNat).length=fZ n.toNat:=rfl;have e3:(aS s.length).length=fZ s.length:=rfl;have e4:(aS (dJ k).length).length=fZ (dJ k).length:=rfl;have u3:=jL ((s.length:Int));have u4:=jL (((dJ k).length:Int));simp only[dJ,QX,dM];rw[z];generalize fZ (4*t+y).toNat=A at *;have w1:=bI ((b:Int)+A);rcases X with d|d|d
    ·rw[au d,e2];generalize fZ n.toNat=B at *;have p:=bI ((b:Int)+A+B);have f:=e (b+A+B) ah;rw[(ah:((b+A+B:Nat):Int)=(b:Int)+A+B),(ah:b+A+B+(dJ (l.drop (i+1))).length=b+(A+B+(dJ (l.drop (i+1))).length))]at f;have q:(y=0)=True:=eq_true d;clear d;refine aB ?_;simp[h,D,q,F,G,H,v,P,w1,p,o,f]
    ·rw[dL,au d,dM,e3];generalize fZ s.length=B at *;have p:=bI ((B:Int)+s.length);have I:=bI ((b:Int)+A+(B+s.length));have f:=e (b+A+(B+s.length)) ah;rw[(ah:((b+A+(B+s.length):Nat):Int)=(b:Int)+A+(B+s.length)),(ah:b+A+(B+s.length)+(dJ (l.drop (i+1))).length=b+(A+(B+s.length)+(dJ (l.drop (i+1))).length))]at f;have q:(y=0)=False:=eq_false ah;have J:(y=1)=True:=eq_true d;clear d;refine aB ?_;simp[h,D,q,J,F,G,H,v,v3,u3,w1,p,I,o,f]
    ·rw[dL,dL,dM,e4];generalize fZ (dJ k).length=B at *;generalize(dJ k).length=C at *;have p:=bI ((B:Int)+C);have I:=bI ((b:Int)+A+(B+C));have f:=e (b+A+(B+C)) ah;rw[(ah:((b+A+(B+C):Nat):Int)=(b:Int)+A+(B+C)),(ah:b+A+(B+C)+(dJ (l.drop (i+1))).length=b+(A+(B+C)+(dJ (l.drop (i+1))).length))]at f;have q:(y=0)=False:=eq_false ah;have J:(y=1)=False:=eq_false ah;have q2:(y=2)=True:=eq_true d;clear d;refine aB ?_;simp[h,D,q,J,q2,F,G,H,v,Z,v4,u4,w1,p,I,o,f]
  have L:=loop l.length 0 ah 0 (by rw[dY];omega);rw[dY,l9]at L;have r:TT.lim 130 [.l (aI l),.zq 0,.zq (aI l).length,.zq 0]=some [.zq 0,.zq ((dJ l).length:Int)]:=by rw[g];exact L
  rw[g]at r;clear loop L;refine aV ?_;simp[g,r]
def Jg(a b:Q2):dH (a++b)=dH a++dH b:=by simp[dH]
def am0:∀(N:Nat)(l:List aK),dO l<N->fB l->uK l->l.length<=1000000->∀B:Q2,B.length+wL l<=1000000000000->TT.lim 131 [.l (dH B),.l (aI l)]=some [.zq 0,.l (dH (B++dJ l))]
 |0,l,h,_,_,_,_,_=>ah
 |N+1,l,hN,x,D,S,B,hB=>by
  have E:=qh l;have loop:∀m i,i+m=l.length->∀b:Q2,b.length+wL (l.drop i)<=1000000000000->TT.lim 132 [.l (dH b),.l (aI l),.zq l.length,.zq i]=some [.zq 0,.l (dH (b++dJ (l.drop i)))]:=by
   intro m;induction m with
   |zero=>intro i hi b c;have U:l.drop i=[]:=iE;have h:¬((i:Int)<l.length):=ah;rw[U];simp only[dJ,lQ];refine aB ?_;simp[h]
   |succ m W=>
    intro i hi b c;obtain⟨t,y,n,s,k,g1,F,X,G⟩:=G7 (l:=l) (i:=i) ah;have p:=G8 x _ G;have Y:=TB D _ G;simp only[uG]at p;obtain⟨Z,t2,y1,y2,y3,H⟩:=aaL Y;have hs:=YC G;simp only[wR]at hs;rw[X]at c⊢;simp only[wL,wF]at c;have hk:=adA N k ah p.2 H p.1.2.2.2.2.2.2.2 ah;have aa:=NK (dO k+1) k ah p.2 H ah;obtain⟨I,J,L⟩:=aii t y ⟨Z,t2⟩ ⟨y1,ah⟩;have w:=zC (4*t+y).toNat ah;have T:=zC n.toNat ah;have v3:=zC s.length ah;have v4:=zC (dJ k).length ah;have z1:=oU (n:=(4*t+y).toNat) ah;have z2:=oU (n:=n.toNat) ah;have z3:=oU (n:=s.length) ah;have z4:=oU (n:=(dJ k).length) ah;rw[(ah:(((4*t+y).toNat:Nat):Int)=4*t+y)]at w;rw[(ah:((n.toNat:Nat):Int)=n)]at T;have j:((i+1:Nat):Int)=(i:Int)+1:=ah;have o:=bI ((i:Int)+1);have h:((i:Int)<l.length):=ah;have e:=λa ha=>W (i+1) ah a ha;simp only[j]at e;have u3:=jL ((s.length:Int));have u4:=jL (((dJ k).length:Int));have M:∀z:Q2,(dH z).all (λg=>g.gu 1)=true:=λz=>by simp[dH,GV.gu]
    have O:∀z:Q2,(dH z).length=z.length:=λz=>by simp[dH]
    simp only[dJ,QX];rcases y3 with d|d|d
    ·rw[au d];have f:=e (b++aS (4*t+y).toNat++aS n.toNat) (by simp only[dM];omega);rw[show b++aS (4*t+y).toNat++aS n.toNat++dJ (l.drop (i+1))=b++(aS (4*t+y).toNat++aS n.toNat++dJ (l.drop (i+1))) by simp,Jg,Jg]at f;generalize aS (4*t+y).toNat=A,aS n.toNat=C at *;have q:2*(b.length+A.length)<=281474976710656/\b.length+A.length<=281474976710656:=ah;have r:2*(b.length+A.length+C.length)<=281474976710656/\b.length+A.length+C.length<=281474976710656:=ah;have u:(y=0)=True:=eq_true d;clear d;refine aB ?_;simp[-List.append_assoc,h,F,u,I,J,L,w,T,o,f,M,O,q,r]
    ·rw[dL,au d];have f:=e (b++aS (4*t+y).toNat++aS s.length++s) (by simp only[dM];omega);rw[show b++aS (4*t+y).toNat++aS s.length++s++dJ (l.drop (i+1))=b++(aS (4*t+y).toNat++(aS s.length++s)++dJ (l.drop (i+1))) by simp,Jg,Jg,Jg]at f;generalize aS (4*t+y).toNat=A,aS s.length=C at *;have q:2*(b.length+A.length)<=281474976710656/\b.length+A.length<=281474976710656:=ah;have r:2*(b.length+A.length+C.length)<=281474976710656/\b.length+A.length+C.length<=281474976710656:=ah;have c3:2*(b.length+A.length+C.length+s.length)<=281474976710656/\b.length+A.length+C.length+s.length<=281474976710656:=ah;have u:(y=0)=False:=eq_false ah;have P:(y=1)=True:=eq_true d;clear d;refine aB ?_;simp[-List.append_assoc,h,F,u,P,I,J,L,w,v3,u3,o,f,M,O,q,r,c3]
    ·rw[dL,dL];have v:=am0 N k ah p.2 H p.1.2.2.2.2.2.2.2 (b++aS (4*t+y).toNat++aS (dJ k).length) (by simp only[dM];omega);have f:=e (b++aS (4*t+y).toNat++aS (dJ k).length++dJ k) (by simp only[dM];omega);rw[show b++aS (4*t+y).toNat++aS (dJ k).length++dJ k++dJ (l.drop (i+1))=b++(aS (4*t+y).toNat++(aS (dJ k).length++dJ k)++dJ (l.drop (i+1))) by simp]at f;rw[Jg (b++_),Jg b]at v;generalize aS (4*t+y).toNat=A,aS (dJ k).length=C at *;have q:2*(b.length+A.length)<=281474976710656/\b.length+A.length<=281474976710656:=ah;have r:2*(b.length+A.length+C.length)<=281474976710656/\b.length+A.length+C.length<=281474976710656:=ah;generalize dJ k=K at *;have u:(y=0)=False:=eq_false ah;have P:(y=1)=False:=eq_false ah;have q2:(y=2)=True:=eq_true d;clear d;refine aB ?_;simp[-List.append_assoc,h,F,u,P,q2,I,J,L,w,hk,v4,u4,v,o,f,M,O,q,r]
  have Q:=loop l.length 0 ah B (by rw[dY];omega);rw[dY]at Q;have R:TT.lim 132 [.l (dH B),.l (aI l),.zq l.length,.zq 0]=some [.zq 0,.l (dH (B++dJ l))]:=Q;clear loop Q;generalize dH B=B' at *;refine aB ?_;simp[E,R]
def ayY{α β:Type}{f:α->β}{n o:List β}(h:n.Perm o):∀l:List α,o=l.map f->∃p:List α,p.Perm l/\n=p.map f:=by
 induction h with
 |nil=>intro l e;exact⟨l,.refl _,e⟩
 |cons x _ r=>
  intro l e;cases l with
  |nil=>cases e
  |cons a l=>
   injection e with c d
   obtain⟨p,g,i⟩:=r l d;exact⟨a::p,g.cons a,by rw[iU,<-i,<-c]⟩
 |swap x y l=>
  intro m e;rcases m with _|⟨a,_|⟨b,m⟩⟩
  ·cases e
  ·cases e
  ·simp only[iU,xU]at e;obtain⟨c,d,s⟩:=e;exact⟨b::a::m,List.Perm.swap a b m,by rw[iU,iU,<-c,<-d,<-s]⟩
 |trans _ _ j k=>intro l e;obtain⟨p,g,i⟩:=k l e;obtain⟨q,t,u⟩:=j p i;exact⟨q,t.trans g,u⟩
def Yj:∀(p q:List aK),p.Perm q->p.Pairwise (λa b=>a.tag<=b.tag)->q.Pairwise (λa b=>a.tag<b.tag)->p=q
 |[],q,h,_,_=>(List.nil_perm.1 h).symm
 |a::p,[],h,_,_=>by have:=h.length_eq;simp at this
 |a::p,b::q,h,c,d=>by
  have f:b∈a::p:=h.mem_iff.2 aA;have g:a∈b::q:=h.mem_iff.1 aA;rw[jm]at c d;have i:a.tag<=b.tag:=by
   rcases bJ.1 f with e|f
   ·rw[e];exact gZ _
   ·exact c.1 b f
  have e:a=b:=by
   rcases bJ.1 g with e|g
   ·exact e
   ·have:=d.1 a g;omega
  subst e;rw[Yj p q (List.Perm.cons_inv h) c.2 d.2]
def OB(f:aK):List aK->Nat
 |[]=>0
 |g::l=>if g.tag<f.tag then OB f l+1 else 0
def Hg(f:aK)(a:List aK):List aK:=a.take (OB f a)++f::a.drop (OB f a)
def N7(a l:List aK):List aK:=l.foldl (λo f=>Hg f o) a
def aiC(f:aK)(a:List aK):(Hg f a).Perm (f::a):=by unfold Hg;refine List.perm_middle.trans ?_;rw[IU]
def aiD(f:aK):∀d:List aK,d.Pairwise (λa b=>a.tag<b.tag)->(∀g∈d,g.tag≠f.tag)->(Hg f d).Pairwise (λa b=>a.tag<b.tag)/\(∀g,d[OB f d]? =some g->g.tag≠f.tag)
 |[],_,_=>by simp[Hg,OB]
 |g::l,e,i=>by
  rw[jm]at e;unfold Hg OB;by_cases h:g.tag<f.tag
  ·obtain⟨j,k⟩:=aiD f l e.2 λx c=>i x (by simp[c]);rw[au h];simp only[AQ,Y6,bg,vT];refine⟨List.pairwise_cons.2 ⟨λx c=>?_,j⟩,k⟩;have:=(aiC f l).mem_iff.1 c;rcases bJ.1 this with rfl|c
   ·exact h
   ·exact e.1 x c
  ·rw[aj h];have m:=i g aA;simp only[Uh,dY,aW,kQ];refine⟨List.pairwise_cons.2 ⟨λx c=>?_,jm.2 e⟩,λx c=>?_⟩
   ·rcases bJ.1 c with rfl|c
    ·omega
    ·have:=e.1 x c;omega
   ·injection c with c
    rw[<-c];exact m
def abp:∀(l c:List aK),c.Pairwise (λa b=>a.tag<b.tag)->((c++l).map aK.tag).Nodup->(N7 c l).Perm (c++l)/\(N7 c l).Pairwise (λa b=>a.tag<b.tag)
 |[],c,d,_=>by simp only[N7,List.foldl_nil,lQ];exact⟨.refl _,d⟩
 |f::l,c,d,h=>by
  have k:∀g∈c,g.tag≠f.tag:=λg m e=>by rw[nP,List.nodup_append]at h;exact h.2.2 g.tag (List.mem_map_of_mem m) f.tag aA e
  have n:=(aiD f c d k).1;have i:(Hg f c++l).Perm (c++f::l):=((aiC f c).append_right l).trans (List.perm_middle.symm);have j:=abp l (Hg f c) n ((i.map aK.tag).nodup_iff.2 h);exact⟨j.1.trans i,j.2⟩
def ahw(l:List aK):(aI l).all (λg=>g.gu 5)=true:=by rw[Dc,List.all_eq_true];intro g a;obtain⟨f,_,rfl⟩:=su.1 a;cases f;simp only[qJ];rfl
def VY(a b:List aK):aI (a++b)=aI a++aI b:=by simp only[Dc,nP]
def xH(a b:List aK):List aK:=N7 [] (a++b)
def Xq{a b:List aK}(c:((a++b).map aK.tag).Nodup):(xH a b).Perm (a++b)/\(xH a b).Pairwise (λx y=>x.tag<y.tag):=abp (a++b) [] List.Pairwise.nil c
def ZP(s:Q2):oJ (dH s)=some s:=by
 induction s with
 |nil=>rfl
 |cons a s c=>
  have d:(0:Int)<=a.toNat/\((a.toNat:Nat):Int)<256:=by have:=a.toNat_lt;omega
  show(if _ then _ else _)=_
  rw[au d];have e:(s.map λb=>GV.i .u8 b.toNat)=dH s:=rfl;rw[e,c];simp
def aFD(l:List aK)(a:fB l)(b:l.length<=1000000)(d:wL l<=1000000000000)(f:jJ 0 0 l=0):TT.lim 128 [.l (aI l)]=some (if 65536<(dJ l).length then[.s [],.zq 4]else[.s (dJ l),.zq 0]):=by
 have e:=Vm (dO l+1) l ah a 0 0 f ah;have g:=VO l a b;rw[f]at g;have j:=adA (dO l+1) l ah a e b d;have k:=am0 (dO l+1) l ah a e b [] (by simpa using d);have m:dH []=[]:=rfl;rw[m,aW]at k;have h:=NK (dO l+1) l ah a e d;by_cases c:65536<(dJ l).length
 ·have i:(65536:Int)<(dJ l).length:=ah;rw[au c];refine aV ?_;simp[g,j,c,i]
 ·have i:¬(65536:Int)<(dJ l).length:=ah;have n:=ZP (dJ l);have o:(dH (dJ l)).length=(dJ l).length:=by simp[dH]
  have p:(dH (dJ l)).length<=281474976710656:=ah;have q:(0:Int)<=(dJ l).length/\((dJ l).length:Int)<=281474976710656/\((dJ l).length:Int)<=1152921504606846976:=ah;rw[aj c];clear a d f e h;generalize dJ l=r,aI l=G at *;generalize dH r=s at *;refine aV ?_;simp[g,j,k,c,i,n,p,q,GV.gu]
def amh(f:aK):Lh (qJ f)=f.tag:=by cases f;simp only[qJ,aK.tag];rfl
def aua(l:List aK):(aI l).all isTagged=true:=by rw[Dc,List.all_eq_true];intro g a;obtain⟨f,_,rfl⟩:=su.1 a;cases f;simp only[qJ];rfl
def aEx{a b:List aK}(h:a.Perm b):dO a=dO b:=by
 induction h with
 |nil=>rfl
 |cons x _ c=>simp only[dO,c]
 |swap x y l=>simp only[dO];omega
 |trans _ _ d e=>rw[d,e]
def aFy{a b:List aK}(h:a.Perm b):wL a=wL b:=by
 induction h with
 |nil=>rfl
 |cons x _ c=>simp only[wL,c]
 |swap x y l=>simp only[wL];omega
 |trans _ _ d e=>rw[d,e]
def ame:∀a b:List aK,dO (a++b)=dO a+dO b
 |[],b=>by simp[dO]
 |f::a,b=>by simp only[bg,dO,ame a b];omega
def amT:∀a b:List aK,wL (a++b)=wL a+wL b
 |[],b=>by simp[wL]
 |f::a,b=>by simp only[bg,wL,amT a b];omega
def VZ:∀{l:List aK},(∀f∈l,uG f)->fB l
 |[],_=>by simp only[fB]
 |f::l,h=>by simp only[fB];exact⟨h f aA,VZ λg a=>h g (by simp[a])⟩
def aud{a b:List aK}(h:a.Perm b)(c:fB b):fB a:=VZ λf d=>G8 c f (h.mem_iff.1 d)
def auc{a b:List aK}(c:fB a)(d:fB b):fB (a++b):=VZ λf e=>(iP.1 e).elim (G8 c f) (G8 d f)
def aDI(l:List aK)(m:(l.map aK.tag).Nodup):xO (aI l)=aI (N7 [] l):=by
 have k:=adB (aI l);have n:=aDH (aI l);rw[Dc]at k;obtain⟨p,d,c⟩:=ayY k l rfl;rw[<-Dc]at c;have f:=abp l [] List.Pairwise.nil m;rw[aW]at f;have g:p.Pairwise (λa b=>a.tag<=b.tag):=by rw[Ud];intro i j hi o h;have:=n i j (qJ p[i]) (qJ p[j]) h (by rw[c,iO,bV hi];rfl) (by rw[c,iO,bV o];rfl);rwa [amh,amh]at this
 have e:=Yj p (N7 [] l) (d.trans f.1.symm) g f.2;rw[c,e,Dc]
def akM(l:List aK)(E:l.length<=10000000)(v:l.Pairwise (λa b=>a.tag<b.tag)):∀m i:Nat,i+1+m=l.length->TT.lim 126 [.l (aI l),.zq ((i:Int)+1)]=some [.zq 1]
 |0,i,hi=>by have h:¬((i:Int)+1<l.length):=ah;have j:=qh l;refine aB ?_;simp[j,h]
 |m+1,i,hi=>by
  have h:((i:Int)+1<l.length):=ah;have j:=qh l;have w:=akM l E v m (i+1) ah;obtain⟨t,y,n,s,k,F,x,P,Q⟩:=G7 (l:=l) (i:=i) ah;obtain⟨g,z,A,B,D,o,d,G,H⟩:=G7 (l:=l) (i:=i+1) ah;have I:t<g:=by
   have:=Ud.1 v i (i+1) ah ah ah;have J:l[i]=.mk t y n s k:=by have:=bV (l:=l) (i:=i) ah;rw[F]at this;injection this with this;exact this.symm
   have L:l[i+1]=.mk g z A B D:=by have:=bV (l:=l) (i:=i+1) ah;rw[o]at this;injection this with this;exact this.symm
   rw[J,L]at this;exact this
  have p:¬g=t:=ah;have c:((i+1:Nat):Int)=(i:Int)+1:=ah;rw[c]at w;have M:=bI ((i:Int)+1+1);have e:=bI ((i:Int)+1-1);have f:(i:Int)+1-1=i:=ah;rw[f]at e;have q:(0:Int)<=(i:Int)+1:=ah;have N:((i:Int)+1).toNat=i+1:=ah;have r:i<l.length:=ah;have O:∀h:i<(aI l).length,(aI l)[i]=sZ t y n s k:=λh=>by have:=bV h;rw[x]at this;injection this with this;exact this.symm
  have u:∀h:i+1<(aI l).length,(aI l)[i+1]=sZ g z A B D:=λh=>by have:=bV h;rw[d]at this;injection this with this;exact this.symm
  refine aB ?_;simp[O,u,j,h,x,d,p,M,e,f,q,N,r,w]
def azw(a b:List aK)(l:fB a)(m:fB b)(v:a.length<=1000000)(w:b.length<=1000000)(n:dO a+dO b<=1000000)(o:jJ 0 0 a=0)(p:jJ 0 0 b=0)(g:((a++b).map aK.tag).Nodup):TT.lim 124 [.l [.l (aI a),.l (aI b)]]=some [.l (aI (xH a b)),.zq 0]:=by
 have q:=VO a l v;have r:=VO b m w;rw[o]at q;rw[p]at r;have c:=VY a b;have s:=qh a;have t:=qh b;have o1:=ahw a;have x:=ahw b;have h:TT.lim 2 [.l (aI a++aI b)]=some [.l (aI (xH a b))]:=by
  refine BN (Ds:=Ds) (f:=Tj) rfl ?_;have i:(aI a++aI b).length<=281474976710656/\(aI a++aI b).all isTagged=true:=by rw[<-c];exact⟨by rw[qh,dM];omega,aua _⟩
  show(if(aI a++aI b).length<=281474976710656/\(aI a++aI b).all isTagged=true then some [GV.l (xO (aI a++aI b))]else none)=_
  rw[au i,<-c,aDI _ g];rfl
 obtain⟨j,u⟩:=Xq g;have d:(xH a b).length=a.length+b.length:=by rw[j.length_eq,dM]
 have e:(aI (xH a b)).length=(aI a++aI b).length:=by rw[qh,d,dM,s,t]
 have k:=VP (xH a b) (by rw[aEx j,ame];exact n);have i:TT.lim 126 [.l (aI (xH a b)),.zq 1]=some [.zq 1]:=by
  rcases Uj (xH a b).length with h0|h0
  ·have:xH a b=[]:=jT h0;rw[this];have fn:aI []=[]:=by simp only[aI]
   rw[fn];refine aB ?_;simp
  ·have:=akM (xH a b) ah u ((xH a b).length-1) 0 ah;simpa using this
 have w0:IntKind.i64.wrap 1=1:=aU;have w1:IntKind.i64.wrap 2=2:=aU;have y:2*(aI a).length*64<=281474976710656/\(aI a).length<=281474976710656:=ah;have z:2*((aI a).length+(aI b).length)*64<=281474976710656/\(aI a).length+(aI b).length<=281474976710656:=ah;clear g j u d o p l m n c s t;generalize aI (xH a b)=M,aI a=A,aI b=B at *;have D:TT.lim 125 [.l (A++B),.l [.l A,.l B],.zq 2,.zq 2]=some [.zq 1,.l (A++B)]:=by refine aB ?_;simp
 have E:TT.lim 125 [.l A,.l [.l A,.l B],.zq 2,.zq 1]=some [.zq 1,.l (A++B)]:=by refine aB ?_;simp[-List.all_eq_true,r,w1,x,z,D]
 have F:TT.lim 125 [.l [],.l [.l A,.l B],.zq 2,.zq 0]=some [.zq 1,.l (A++B)]:=by refine aB ?_;simp[-List.all_eq_true,q,w0,o1,y,E]
 rw[dM]at e;refine aV ?_;simp[F,h,e,i,k]
def bH(r:Nat):Nat:=if r%2=1 then(r/2) ^^^ 3988292384 else r/2
def kE(a b:Nat):bH (a ^^^ b)=bH a ^^^ bH b:=by
 unfold bH;have c:(a ^^^ b)/2=a/2 ^^^ b/2:=Nat.xor_div_two;have d:(a ^^^ b)%2=(a+b)%2:=by have h:=Nat.xor_mod_two_eq_one (a:=a) (b:=b);generalize(a ^^^ b)=z at *;omega
 rw[c,d];have e:∀u v:Nat,(u ^^^ 3988292384) ^^^ (v ^^^ 3988292384)=u ^^^ v:=λu v=>by rw[qG,Nat.xor_comm v,<-qG 3988292384,Nat.xor_self,Nat.zero_xor]
 rcases aeU a with f|f<;>rcases aeU b with g|g
 ·rw[dL,dL,dL]
 ·rw[lM,dL,lM,qG]
 ·rw[lM,lM,dL,qG,qG,Nat.xor_comm (b/2)]
 ·rw[dL,lM,lM,e]
def kW(a:Nat):bH (2*a+1)=a ^^^ 3988292384:=by unfold bH;rw[lM,(ah:(2*a+1)/2=a)]
def kV(a:Nat):bH (2*a)=a:=by unfold bH;rw[dL,(ah:2*a/2=a)]
def gU(r:Nat):Nat:=bH (bH (bH (bH r)))
def aDR(q:Nat):gU (16*q)=q ^^^ 0:=by
 have a:bH (16*q)=8*q:=by rw[(ah:16*q=2*(8*q))];exact kV _
 have b:bH (8*q)=4*q:=by rw[(ah:8*q=2*(4*q))];exact kV _
 have c:bH (4*q)=2*q:=by rw[(ah:4*q=2*(2*q))];exact kV _
 have d:bH (2*q)=q:=by exact kV _
 unfold gU;rw[a];rw[b];rw[c];rw[d];rw[Nat.xor_zero]
def aDS(q:Nat):gU (16*q+1)=q ^^^ 498536548:=by
 have a:bH (16*q+1)=(8*q) ^^^ 3988292384:=by rw[(ah:16*q+1=2*(8*q)+1)];exact kW _
 have b:bH (8*q)=4*q:=by rw[(ah:8*q=2*(4*q))];exact kV _
 have c:bH (4*q)=2*q:=by rw[(ah:4*q=2*(2*q))];exact kV _
 have d:bH (2*q)=q:=by exact kV _
 unfold gU;rw[a];rw[kE,b,show bH 3988292384=1994146192 by decide];rw[kE,c,show bH 1994146192=997073096 by decide];rw[kE,d,show bH 997073096=498536548 by decide]
def aDZ(q:Nat):gU (16*q+2)=q ^^^ 997073096:=by
 have a:bH (16*q+2)=8*q+1:=by rw[(ah:16*q+2=2*(8*q+1))];exact kV _
 have b:bH (8*q+1)=(4*q) ^^^ 3988292384:=by rw[(ah:8*q+1=2*(4*q)+1)];exact kW _
 have c:bH (4*q)=2*q:=by rw[(ah:4*q=2*(2*q))];exact kV _
 have d:bH (2*q)=q:=by exact kV _
 unfold gU;rw[a];rw[b];rw[kE,c,show bH 3988292384=1994146192 by decide];rw[kE,d,show bH 1994146192=997073096 by decide]
def aD0(q:Nat):gU (16*q+3)=q ^^^ 651767980:=by
 have a:bH (16*q+3)=(8*q+1) ^^^ 3988292384:=by rw[(ah:16*q+3=2*(8*q+1)+1)];exact kW _
 have b:bH (8*q+1)=(4*q) ^^^ 3988292384:=by rw[(ah:8*q+1=2*(4*q)+1)];exact kW _
 have c:bH (4*q)=2*q:=by rw[(ah:4*q=2*(2*q))];exact kV _
 have d:bH (2*q)=q:=by exact kV _
 unfold gU;rw[a];rw[kE,b,show bH 3988292384=1994146192 by decide];rw[qG,show 3988292384 ^^^ 1994146192=2607071920 by decide];rw[kE,c,show bH 2607071920=1303535960 by decide];rw[kE,d,show bH 1303535960=651767980 by decide]
def aD1(q:Nat):gU (16*q+4)=q ^^^ 1994146192:=by
 have a:bH (16*q+4)=8*q+2:=by rw[(ah:16*q+4=2*(8*q+2))];exact kV _
 have b:bH (8*q+2)=4*q+1:=by rw[(ah:8*q+2=2*(4*q+1))];exact kV _
 have c:bH (4*q+1)=(2*q) ^^^ 3988292384:=by rw[(ah:4*q+1=2*(2*q)+1)];exact kW _
 have d:bH (2*q)=q:=by exact kV _
 unfold gU;rw[a];rw[b];rw[c];rw[kE,d,show bH 3988292384=1994146192 by decide]
def aD2(q:Nat):gU (16*q+5)=q ^^^ 1802195444:=by
 have a:bH (16*q+5)=(8*q+2) ^^^ 3988292384:=by rw[(ah:16*q+5=2*(8*q+2)+1)];exact kW _
 have b:bH (8*q+2)=4*q+1:=by rw[(ah:8*q+2=2*(4*q+1))];exact kV _
 have c:bH (4*q+1)=(2*q) ^^^ 3988292384:=by rw[(ah:4*q+1=2*(2*q)+1)];exact kW _
 have d:bH (2*q)=q:=by exact kV _
 unfold gU;rw[a];rw[kE,b,show bH 3988292384=1994146192 by decide];rw[kE,c,show bH 1994146192=997073096 by decide];rw[qG,show 3988292384 ^^^ 997073096=3604390888 by decide];rw[kE,d,show bH 3604390888=1802195444 by decide]
def aD3(q:Nat):gU (16*q+6)=q ^^^ 1303535960:=by
 have a:bH (16*q+6)=8*q+3:=by rw[(ah:16*q+6=2*(8*q+3))];exact kV _
 have b:bH (8*q+3)=(4*q+1) ^^^ 3988292384:=by rw[(ah:8*q+3=2*(4*q+1)+1)];exact kW _
 have c:bH (4*q+1)=(2*q) ^^^ 3988292384:=by rw[(ah:4*q+1=2*(2*q)+1)];exact kW _
 have d:bH (2*q)=q:=by exact kV _
 unfold gU;rw[a];rw[b];rw[kE,c,show bH 3988292384=1994146192 by decide];rw[qG,show 3988292384 ^^^ 1994146192=2607071920 by decide];rw[kE,d,show bH 2607071920=1303535960 by decide]
def aD4(q:Nat):gU (16*q+7)=q ^^^ 1342533948:=by
 have a:bH (16*q+7)=(8*q+3) ^^^ 3988292384:=by rw[(ah:16*q+7=2*(8*q+3)+1)];exact kW _
 have b:bH (8*q+3)=(4*q+1) ^^^ 3988292384:=by rw[(ah:8*q+3=2*(4*q+1)+1)];exact kW _
 have c:bH (4*q+1)=(2*q) ^^^ 3988292384:=by rw[(ah:4*q+1=2*(2*q)+1)];exact kW _
 have d:bH (2*q)=q:=by exact kV _
 unfold gU;rw[a];rw[kE,b,show bH 3988292384=1994146192 by decide];rw[qG,show 3988292384 ^^^ 1994146192=2607071920 by decide];rw[kE,c,show bH 2607071920=1303535960 by decide];rw[qG,show 3988292384 ^^^ 1303535960=2685067896 by decide];rw[kE,d,show bH 2685067896=1342533948 by decide]
def aD5(q:Nat):gU (16*q+8)=q ^^^ 3988292384:=by
 have a:bH (16*q+8)=8*q+4:=by rw[(ah:16*q+8=2*(8*q+4))];exact kV _
 have b:bH (8*q+4)=4*q+2:=by rw[(ah:8*q+4=2*(4*q+2))];exact kV _
 have c:bH (4*q+2)=2*q+1:=by rw[(ah:4*q+2=2*(2*q+1))];exact kV _
 have d:bH (2*q+1)=q ^^^ 3988292384:=by exact kW _
 unfold gU;rw[a];rw[b];rw[c];rw[d]
def aD6(q:Nat):gU (16*q+9)=q ^^^ 4027552580:=by
 have a:bH (16*q+9)=(8*q+4) ^^^ 3988292384:=by rw[(ah:16*q+9=2*(8*q+4)+1)];exact kW _
 have b:bH (8*q+4)=4*q+2:=by rw[(ah:8*q+4=2*(4*q+2))];exact kV _
 have c:bH (4*q+2)=2*q+1:=by rw[(ah:4*q+2=2*(2*q+1))];exact kV _
 have d:bH (2*q+1)=q ^^^ 3988292384:=by exact kW _
 unfold gU;rw[a];rw[kE,b,show bH 3988292384=1994146192 by decide];rw[kE,c,show bH 1994146192=997073096 by decide];rw[kE,d,show bH 997073096=498536548 by decide];rw[qG,show 3988292384 ^^^ 498536548=4027552580 by decide]
def aDT(q:Nat):gU (16*q+10)=q ^^^ 3604390888:=by
 have a:bH (16*q+10)=8*q+5:=by rw[(ah:16*q+10=2*(8*q+5))];exact kV _
 have b:bH (8*q+5)=(4*q+2) ^^^ 3988292384:=by rw[(ah:8*q+5=2*(4*q+2)+1)];exact kW _
 have c:bH (4*q+2)=2*q+1:=by rw[(ah:4*q+2=2*(2*q+1))];exact kV _
 have d:bH (2*q+1)=q ^^^ 3988292384:=by exact kW _
 unfold gU;rw[a];rw[b];rw[kE,c,show bH 3988292384=1994146192 by decide];rw[kE,d,show bH 1994146192=997073096 by decide];rw[qG,show 3988292384 ^^^ 997073096=3604390888 by decide]
def aDU(q:Nat):gU (16*q+11)=q ^^^ 3412177804:=by
 have a:bH (16*q+11)=(8*q+5) ^^^ 3988292384:=by rw[(ah:16*q+11=2*(8*q+5)+1)];exact kW _
 have b:bH (8*q+5)=(4*q+2) ^^^ 3988292384:=by rw[(ah:8*q+5=2*(4*q+2)+1)];exact kW _
 have c:bH (4*q+2)=2*q+1:=by rw[(ah:4*q+2=2*(2*q+1))];exact kV _
 have d:bH (2*q+1)=q ^^^ 3988292384:=by exact kW _
 unfold gU;rw[a];rw[kE,b,show bH 3988292384=1994146192 by decide];rw[qG,show 3988292384 ^^^ 1994146192=2607071920 by decide];rw[kE,c,show bH 2607071920=1303535960 by decide];rw[kE,d,show bH 1303535960=651767980 by decide];rw[qG,show 3988292384 ^^^ 651767980=3412177804 by decide]
def aDV(q:Nat):gU (16*q+12)=q ^^^ 2607071920:=by
 have a:bH (16*q+12)=8*q+6:=by rw[(ah:16*q+12=2*(8*q+6))];exact kV _
 have b:bH (8*q+6)=4*q+3:=by rw[(ah:8*q+6=2*(4*q+3))];exact kV _
 have c:bH (4*q+3)=(2*q+1) ^^^ 3988292384:=by rw[(ah:4*q+3=2*(2*q+1)+1)];exact kW _
 have d:bH (2*q+1)=q ^^^ 3988292384:=by exact kW _
 unfold gU;rw[a];rw[b];rw[c];rw[kE,d,show bH 3988292384=1994146192 by decide];rw[qG,show 3988292384 ^^^ 1994146192=2607071920 by decide]
def aDW(q:Nat):gU (16*q+13)=q ^^^ 2262029012:=by
 have a:bH (16*q+13)=(8*q+6) ^^^ 3988292384:=by rw[(ah:16*q+13=2*(8*q+6)+1)];exact kW _
 have b:bH (8*q+6)=4*q+3:=by rw[(ah:8*q+6=2*(4*q+3))];exact kV _
 have c:bH (4*q+3)=(2*q+1) ^^^ 3988292384:=by rw[(ah:4*q+3=2*(2*q+1)+1)];exact kW _
 have d:bH (2*q+1)=q ^^^ 3988292384:=by exact kW _
 unfold gU;rw[a];rw[kE,b,show bH 3988292384=1994146192 by decide];rw[kE,c,show bH 1994146192=997073096 by decide];rw[qG,show 3988292384 ^^^ 997073096=3604390888 by decide];rw[kE,d,show bH 3604390888=1802195444 by decide];rw[qG,show 3988292384 ^^^ 1802195444=2262029012 by decide]
def aDX(q:Nat):gU (16*q+14)=q ^^^ 2685067896:=by
 have a:bH (16*q+14)=8*q+7:=by rw[(ah:16*q+14=2*(8*q+7))];exact kV _
 have b:bH (8*q+7)=(4*q+3) ^^^ 3988292384:=by rw[(ah:8*q+7=2*(4*q+3)+1)];exact kW _
 have c:bH (4*q+3)=(2*q+1) ^^^ 3988292384:=by rw[(ah:4*q+3=2*(2*q+1)+1)];exact kW _
 have d:bH (2*q+1)=q ^^^ 3988292384:=by exact kW _
 unfold gU;rw[a];rw[b];rw[kE,c,show bH 3988292384=1994146192 by decide];rw[qG,show 3988292384 ^^^ 1994146192=2607071920 by decide];rw[kE,d,show bH 2607071920=1303535960 by decide];rw[qG,show 3988292384 ^^^ 1303535960=2685067896 by decide]
def aDY(q:Nat):gU (16*q+15)=q ^^^ 3183342108:=by
 have a:bH (16*q+15)=(8*q+7) ^^^ 3988292384:=by rw[(ah:16*q+15=2*(8*q+7)+1)];exact kW _
 have b:bH (8*q+7)=(4*q+3) ^^^ 3988292384:=by rw[(ah:8*q+7=2*(4*q+3)+1)];exact kW _
 have c:bH (4*q+3)=(2*q+1) ^^^ 3988292384:=by rw[(ah:4*q+3=2*(2*q+1)+1)];exact kW _
 have d:bH (2*q+1)=q ^^^ 3988292384:=by exact kW _
 unfold gU;rw[a];rw[kE,b,show bH 3988292384=1994146192 by decide];rw[qG,show 3988292384 ^^^ 1994146192=2607071920 by decide];rw[kE,c,show bH 2607071920=1303535960 by decide];rw[qG,show 3988292384 ^^^ 1303535960=2685067896 by decide];rw[kE,d,show bH 2685067896=1342533948 by decide];rw[qG,show 3988292384 ^^^ 1342533948=3183342108 by decide]
def Af(b:aQ)(s:eF):Option aK:=match placeOf s.name with
 |some p=>if(bC b p).1=0/\(bC b p).2=[]then none else some (.mk s.tag (dZ p) (bC b p).1 (bC b p).2 [])
 |none=>none
def nG(b:aQ)(l:List eF):List aK:=l.filterMap (Af b)
def Hr(b:aQ)(s:eF)(l:List eF):nG b (s::l)=(match Af b s with|some f=>[f]|none=>[])++nG b l:=by unfold nG;rw[List.filterMap_cons];cases Af b s<;>rfl
def akj{b:aQ}{v:List aK}(F:sF b v)(c:List eF)(I:c.length<=1000)(o:∀s∈c,placeOf s.name≠none/\s.use=ad1 s.name):∀(m i:Nat)(a:List aK),i+m=c.length->a.length+m<=2000->
 TT.lim 117 ([.l (aI a),.l (c.map gB),.zq c.length,.zq i]++(jc b (aI v)).cells)=some [.zq 0,.l (aI (a++nG b (c.drop i)))]
 |0,i,a,hi,J=>by have h:¬((i:Int)<c.length):=ah;have e:c.drop i=[]:=iE;rw[e];have:nG b []=[]:=rfl;rw[this,lQ,fD];simp only[bg,aW];refine aB ?_;simp[h]
 |m+1,i,a,hi,J=>by
  have g:i<c.length:=ah;have h:((i:Int)<c.length):=ah;obtain⟨p,y⟩:∃p,placeOf c[i].name=some p:=by
   cases e:placeOf c[i].name with
   |some p=>exact⟨p,rfl⟩
   |none=>exact absurd e (o _ (gY g)).1
  have w:=axV F y;have q:c.drop i=c[i]::c.drop (i+1):=iG g;have j:(c.map gB)[i]? =some (gB c[i]):=by rw[iO,bV g];rfl
  have d:((i+1:Nat):Int)=(i:Int)+1:=ah;have z:=bI ((i:Int)+1);rw[q,Hr];have G:Af b c[i]=if(bC b p).1=0/\(bC b p).2=[]then none else some (.mk c[i].tag (dZ p) (bC b p).1 (bC b p).2 []):=by unfold Af;rw[y]
  rw[G];have f:=akj F c I o m (i+1);generalize c[i]=s at *;clear G q y;have H:=qh a;have fn:aI []=[]:=by simp only[aI]
  have k:(sZ s.tag (dZ p) (bC b p).1 (bC b p).2 []).gu 5=true:=rfl;have l:GV.g [.zu s.tag,.zq (dZ p),.zu (bC b p).1,.s (bC b p).2,.l []]=sZ s.tag (dZ p) (bC b p).1 (bC b p).2 []:=by unfold sZ;rw[fn]
  have B:2*((aI a).length+1)*64<=281474976710656/\(aI a).length+1<=281474976710656:=ah;by_cases x:(bC b p).1=0/\(bC b p).2=[]
  ·rw[au x];have f:=f a ah ah;rw[fD,d]at f;rw[fD];simp only[bg,aW]at f⊢;clear k l B H;obtain⟨L,M⟩:=x;rw[L,M]at w;generalize aI a=A,aI v=r,c.map gB=N,dZ p=O at *;refine aB ?_;simp[h,j,lJ,w,z,f]
  ·rw[aj x];have f:=f (a++[.mk s.tag (dZ p) (bC b p).1 (bC b p).2 []]) ah (by rw[dM,F8];omega);have u:aI (a++[.mk s.tag (dZ p) (bC b p).1 (bC b p).2 []])=aI a++[sZ s.tag (dZ p) (bC b p).1 (bC b p).2 []]:=by rw[VY];simp only[aI,qJ];rfl
   rw[fD,d,u,List.append_assoc]at f;rw[fD];simp only[bg,aW]at f⊢;generalize P:aI (a++.mk s.tag (dZ p) (bC b p).1 (bC b p).2 []::nG b (c.drop (i+1)))=R at *;clear P u H;generalize sZ s.tag (dZ p) (bC b p).1 (bC b p).2 []=E,aI a=A,aI v=r,c.map gB=N at *;generalize dZ p=O,bC b p=Q at *;obtain⟨n,t⟩:=Q;simp only at *;by_cases D:n=0
   ·have S:¬t=[]:=λe=>x ⟨D,e⟩;subst D;refine aB ?_;simp[h,j,lJ,w,S,l,k,B,z,f]
   ·refine aB ?_;simp[h,j,lJ,w,D,l,k,B,z,f]
def QB:∀(l:List aK)(w:Nat)(a:Int),jJ w a l=0->(∀f∈l,f.tag≠0/\f.tag<=4294967296/\zY w f=0/\a<f.tag)/\l.Pairwise (λx y=>x.tag<y.tag)
 |[],w,a,_=>⟨aA,List.Pairwise.nil⟩
 |f::l,w,a,h=>by
  unfold jJ at h;by_cases h1:f.tag=0
  ·rw[au h1]at h;exact absurd h aU
  rw[aj h1]at h;by_cases d:4294967296<f.tag
  ·rw[au d]at h;exact absurd h aU
  rw[aj d]at h;by_cases i:f.tag<=a
  ·rw[au i]at h;exact absurd h aU
  rw[aj i]at h;by_cases c:zY w f=0;rotate_left
  ·rw[au c]at h;exact absurd h c
  rw[aj (λe=>e c)]at h;obtain⟨j,k⟩:=QB l w f.tag h;refine⟨λg b=>?_,jm.2 ⟨λg b=>(j g b).2.2.2,k⟩⟩;rcases bJ.1 b with rfl|b
  ·exact⟨h1,ah,c,ah⟩
  ·obtain⟨m,n,o,p⟩:=j g b;exact⟨m,n,o,ah⟩
def Z9:∀(l:List aK)(w:Nat)(a:Int),(∀f∈l,f.tag≠0/\f.tag<=4294967296/\zY w f=0/\a<f.tag)->l.Pairwise (λx y=>x.tag<y.tag)->jJ w a l=0
 |[],w,a,_,_=>by unfold jJ;rfl
 |f::l,w,a,h,b=>by obtain⟨q1,i,d,j⟩:=h f aA;rw[jm]at b;unfold jJ;rw[aj q1,dL,dL,aj (λe=>e d)];refine Z9 l w f.tag (λg c=>?_) b.2;obtain⟨r1,r2,r3,k⟩:=h g (by simp[c]);exact⟨r1,r2,r3,b.1 g c⟩
def aDM(k:Int):(zG k).Pairwise (λs t=>s.tag<t.tag)/\∀s∈zG k,1<=s.tag/\s.tag<=5:=by
 unfold zG;repeat' split
 all_goals first|(unfold sp1;decide)|(unfold sp2;decide)|(unfold Fv;decide)|(unfold Fz;decide)|(unfold FB;decide)|(unfold FD;decide)|(unfold FH;decide)|(unfold FI;decide)|exact⟨List.Pairwise.nil,λs a=>by cases a⟩
def JR(k v:Int):(aZ k v).Pairwise (λs t=>s.tag<t.tag)/\∀s∈aZ k v,1<=s.tag/\s.tag<=5:=by obtain⟨a,b⟩:=aDM k;exact⟨a.sublist aeG,λs c=>b s (BZ.1 c).1⟩
def Rz{b:aQ}{s:eF}{f:aK}(h:Af b s=some f):∃p,placeOf s.name=some p/\f=.mk s.tag (dZ p) (bC b p).1 (bC b p).2 []/\¬((bC b p).1=0/\(bC b p).2=[]):=by
 unfold Af at h;cases c:placeOf s.name with
 |none=>rw[c]at h;cases h
 |some p=>
  rw[c]at h;simp only at h;by_cases a:(bC b p).1=0/\(bC b p).2=[]
  ·rw[au a]at h;cases h
  ·rw[aj a]at h;injection h with h
   exact⟨p,rfl,h.symm,a⟩
def RD{b:aQ}{l:List eF}{f:aK}(h:f∈nG b l):∃s∈l,∃p,placeOf s.name=some p/\f=.mk s.tag (dZ p) (bC b p).1 (bC b p).2 []/\¬((bC b p).1=0/\(bC b p).2=[]):=by unfold nG at h;obtain⟨s,a,c⟩:=List.mem_filterMap.1 h;exact⟨s,a,Rz c⟩
def Xb(b:aQ):∀(l:List eF),l.Pairwise (λs t=>s.tag<t.tag)->(nG b l).Pairwise (λx y=>x.tag<y.tag)
 |[],_=>List.Pairwise.nil
 |s::l,h=>by
  rw[jm]at h;rw[Hr];have c:=Xb b l h.2;cases d:Af b s with
  |none=>exact c
  |some f=>obtain⟨p,-,rfl,-⟩:=Rz d;refine jm.2 ⟨λg e=>?_,c⟩;obtain⟨i,a,j,-,rfl,-⟩:=RD e;exact h.1 i a
def aFi(b:aQ)(p:Pl):(dZ p=0/\(bC b p).2=[])\/(dZ p=1/\(bC b p).1=0):=by cases p<;>simp[dZ,bC]
def aiU(b:aQ)(k v:Int):jJ 0 0 (nG b (aZ k v))=0:=by
 obtain⟨d,e⟩:=JR k v;refine Z9 _ 0 0 (λf g=>?_) (Xb b _ d);obtain⟨s,h,p,-,rfl,-⟩:=RD g;have:=e s h;refine⟨by show s.tag≠0;omega,by show s.tag<=_;omega,?_,by show 0<s.tag;omega⟩;unfold zY;rcases aFi b p with⟨a,c⟩|⟨a,c⟩
 ·rw[a,c];simp
 ·rw[a,c];simp
def Short(b:aQ):Prop:=b.name.length<=600/\b.region.length<=600/\b.note.length<=600
def amL{b:aQ}{a:List aK}(h:sF b a)(c:Short b)(p:Pl):(0<=(bC b p).1/\(bC b p).1<18446744073709551616)/\(bC b p).2.length<=100000000:=by
 have q:=h.body;obtain⟨w1,e,f⟩:=c;cases p with
 |rem=>have g:=q.remaining;exact⟨by simp only[bC];unfold zz;split<;>omega,by simp[bC]⟩
 |allow=>refine⟨?_,by simp[bC]⟩;simp only[bC];split<;>omega
 |name=>exact⟨by simp[bC],by simp only[bC];omega⟩
 |region=>exact⟨by simp[bC],by simp only[bC];omega⟩
 |note=>exact⟨by simp[bC],by simp only[bC];omega⟩
 |d=>
  refine⟨by simp[bC],?_⟩;simp only[bC];have:=Ry h.d;split
  ·simp
  ·omega
 |t=>
  refine⟨by simp[bC],?_⟩;simp only[bC];have:=ake b.t h.t;split
  ·simp
  ·unfold E8;split
   ·simp
   ·simp only;omega
 |num k=>refine⟨?_,by simp[bC]⟩;simp only[bC];unfold qp;split<;>first|exact q.id|exact q.min|exact q.max|exact q.chosen|exact q.flags|exact q.cost|exact q.priority|exact q.deadline|exact q.retry|exact q.epoch|exact q.base|exact q.digest|exact q.lag|exact q.code|exact q.want
def aiR{b:aQ}{c:List aK}(h:sF b c)(d:Short b)(k v:Int):fB (nG b (aZ k v)):=VZ λf e=>by
 obtain⟨s,g,p,-,rfl,-⟩:=RD e;have i:=(JR k v).2 s g;have a:=amL h d p;have j:0<=dZ p/\dZ p<=1:=by cases p<;>simp[dZ]
 simp only[uG,fB];refine⟨⟨?_,?_,?_,?_,a.1.1,a.1.2,a.2,?_⟩,trivial⟩;all_goals first|omega|simp
def aiQ(b:aQ)(k v:Int):(nG b (aZ k v)).length<=8:=kR (List.length_filterMap_le _ _) (Ht k v)
def aiS(b:aQ):∀l:List eF,dO (nG b l)<=2*l.length
 |[]=>by simp[nG,dO]
 |s::l=>by
  rw[Hr];have c:=aiS b l;cases a:Af b s with
  |none=>simp only[aW,ig];omega
  |some f=>obtain⟨p,-,rfl,-⟩:=Rz a;simp only[bg,aW,dO,wR,ig];omega
def aiT{b:aQ}{c:List aK}(h:sF b c)(a:Short b):∀l:List eF,wL (nG b l)<=100000040*l.length
 |[]=>by simp[nG,wL]
 |s::l=>by
  rw[Hr];have e:=aiT h a l;cases d:Af b s with
  |none=>simp only[aW,ig];omega
  |some f=>obtain⟨p,-,rfl,-⟩:=Rz d;have g:=(amL h a p).2;simp only[bg,aW,wL,wF,ig];omega
structure y7(b:aQ)(fl:List aK):Prop where
 msg:sF b fl
 short:Short b
 sz:dO fl<=900000
 w:wL fl<=2000000000
def Jr{b:aQ}{a:List aK}{v:Int}(h:gK b a v=0):1<=v/\v<=3/\aZ b.kind v≠[]/\jJ 0 0 a=0/\∀f∈a,hasTag (aZ b.kind v) f.tag=false:=by
 unfold gK at h;by_cases j:v<1
 ·rw[au j]at h;exact absurd h aU
 rw[aj j]at h;by_cases k:3<v
 ·rw[au k]at h;exact absurd h aU
 rw[aj k]at h;by_cases d:aZ b.kind v=[]
 ·rw[au d]at h;exact absurd h aU
 rw[aj d]at h;by_cases l:iR.all (λn=>uZ (aZ b.kind v) n ||qR b n)=false
 ·rw[au l]at h;exact absurd h aU
 rw[aj l]at h;by_cases g:oN b (aZ b.kind v)≠0
 ·rw[au g]at h;exact absurd h g
 rw[aj g]at h;by_cases i:Jf b≠0
 ·rw[au i]at h;exact absurd h i
 rw[aj i]at h;unfold OI at h;by_cases c:jJ 0 0 a≠0
 ·rw[au c]at h;exact absurd h c
 rw[aj c]at h;by_cases m:a.any (λf=>hasTag (aZ b.kind v) f.tag)=true
 ·rw[au m]at h;exact absurd h aU
 refine⟨ah,ah,d,by simpa using c,λf o=>?_⟩;cases e:hasTag (aZ b.kind v) f.tag with
 |false=>rfl
 |true=>exact absurd (List.any_eq_true.2 ⟨f,o,e⟩) m
def UO{b:aQ}{a:List aK}{v:Int}(h:gK b a v=0):((nG b (aZ b.kind v)++a).map aK.tag).Nodup:=by
 obtain⟨-,-,-,d,i⟩:=Jr h;have j:=Xb b _ (JR b.kind v).1;have k:=(QB a 0 0 d).2;rw[nP,List.nodup_append];have c:∀l:List aK,l.Pairwise (λx y=>x.tag<y.tag)->(l.map aK.tag).Nodup:=λl m=>by unfold List.Nodup;rw[List.pairwise_map];exact m.imp λh e=>ah
 refine⟨c _ j,c _ k,λx n y o e=>?_⟩;obtain⟨f,q,rfl⟩:=su.1 n;obtain⟨g,r,rfl⟩:=su.1 o;obtain⟨s,t,p,-,rfl,-⟩:=RD q;have:=i g r;unfold hasTag at this;have u:(aZ b.kind v).any (λs=>decide (g.tag=s.tag))=true:=List.any_eq_true.2 ⟨s,t,GL (show g.tag=s.tag from e.symm)⟩;rw[u]at this;cases this
def CP(b:aQ)(a:List aK)(v:Int):List aK:=xH (nG b (aZ b.kind v)) a
def VT(b:aQ)(a:List aK)(v:Int):List aK×Int:=if gK b a v=0 then(CP b a v,0)else([],gK b a v)
structure YW(l:List aK):Prop where
 ok:fB l
 len:l.length<=1000000
 w:wL l<=1000000000000
 chk:jJ 0 0 l=0
def afg{b:aQ}{c:List aK}{v:Int}(a:y7 b c)(h:gK b c v=0):YW (CP b c v):=by
 obtain⟨-,-,-,g,k⟩:=Jr h;obtain⟨e,i⟩:=Xq (UO h);have m:c.length<=900000:=by
  have:∀l:List aK,l.length<=dO l:=λl=>by
   induction l with
   |nil=>simp[dO]
   |cons f l n=>simp only[ig,dO];omega
  have:=this c;have:=a.sz;omega
 have o:=aiQ b b.kind v;have p:=aiT a.msg a.short (aZ b.kind v);have j:=Ht b.kind v;have q:=a.w;refine⟨aud e (auc (aiR a.msg a.short _ _) a.msg.f8),?_,?_,?_⟩
 ·unfold CP;rw[e.length_eq,dM];omega
 ·unfold CP;rw[aFy e,amT];have:100000040*(aZ b.kind v).length<=100000040*8:=Zh _ j;omega
 ·refine Z9 _ 0 0 (λf d=>?_) i;rcases iP.1 (e.mem_iff.1 d)with d|d
  ·exact(QB _ 0 0 (aiU b b.kind v)).1 f d
  ·exact(QB _ 0 0 g).1 f d
def aiN{k v:Int}(h:aZ k v≠[]):1<=k/\k<=8:=by
 by_cases c:1<=k/\k<=8
 ·exact c
 ·exfalso;apply h;unfold aZ zG;rw[dL,dL,dL,dL,dL,dL,dL,dL];rfl
def ayZ{b:aQ}{a:List aK}(d:y7 b a)(v:Int):TT.lim 72 [jc b (aI a),.zq v]=some [.l (aI (VT b a v).1),.zq (VT b a v).2]:=by
 have f:=abQ b a v d.msg.body d.msg.t.few d.msg.f8 d.msg.len;unfold VT;by_cases c:gK b a v=0;rotate_left
 ·rw[aj c];have fn:aI []=[]:=by simp only[aI]
  rw[fn];generalize aI a=r,gK b a v=p at *;refine aV ?_;simp[lJ,f,c]
 rw[au c];rw[c]at f;obtain⟨g,h,e,l,-⟩:=Jr c;have m:=W9 b.kind v g h (by have:=mt (aiV b.kind v g h).2 e;omega)
 have i:=akj d.msg (aZ b.kind v) (by have:=Ht b.kind v;omega) (awC b.kind v) (aZ b.kind v).length 0 [] ah (by have:=Ht b.kind v;simp;omega);have fn:aI []=[]:=by simp only[aI]
 rw[dY,aW,fD,fn]at i;simp only[bg,aW,rY]at i;have j:=aiS b (aZ b.kind v);have n:=Ht b.kind v;have o:=azw _ a (aiR d.msg d.short b.kind v) d.msg.f8 (by have:=aiQ b b.kind v;omega) d.msg.len (by have:=d.sz;omega) (aiU b b.kind v) l (UO c);have k:(((aZ b.kind v).map gB).length:Int)=((aZ b.kind v).length:Int):=by rw[gG]
 unfold CP;generalize aI (xH (nG b (aZ b.kind v)) a)=M,aI (nG b (aZ b.kind v))=q,(aZ b.kind v).map gB=s,((aZ b.kind v).length:Int)=L,aI a=r at *;clear j n e l c d g h;refine aV ?_;simp[lJ,f,m,k,i,o]
def bytesV(b:aQ)(a:List aK)(v:Int):Q2:=aS b.kind.toNat++dJ (CP b a v)
def xB(b:aQ)(a:List aK)(v:Int):Q2×Int:=if gK b a v=0 then(if 65536<(bytesV b a v).length then([],4)else(bytesV b a v,0))else([],gK b a v)
def ayX{b:aQ}{a:List aK}(j:y7 b a)(v:Int):TT.lim 71 [jc b (aI a),.zq v]=some [.s (xB b a v).1,.zq (xB b a v).2]:=by
 have d:=ayZ j v;unfold VT at d;unfold xB;by_cases c:gK b a v=0;rotate_left
 ·rw[aj c]at d⊢;generalize aI a=r,gK b a v=t at *;refine aV ?_;simp[lJ,d,c]
 rw[au c]at d⊢;have f:=afg j c;have g:=aFD (CP b a v) f.ok f.len f.w f.chk;obtain⟨-,-,h,-,-⟩:=Jr c;obtain⟨u,w⟩:=aiN h;have k:=zC b.kind.toNat ah;have s:=oU (n:=b.kind.toNat) ah;rw[(ah:((b.kind.toNat:Nat):Int)=b.kind)]at k;have l:=jL (b.kind);unfold bytesV;rw[dM];clear f c j h;generalize CP b a v=m,aS b.kind.toNat=V,aI a=r at *;generalize aI m=G,dJ m=i at *;by_cases o:65536<i.length
 ·rw[au o]at g;rw[lM];refine aV ?_;simp[lJ,d,g]
 ·rw[aj o]at g;have p:(V.length:Int)+i.length<=9223372036854775807:=ah;by_cases q:65536<V.length+i.length
  ·have e:(65536:Int)<V.length+i.length:=ah;rw[au q];refine aV ?_;simp[lJ,d,g,l,k,e,p]
  ·have e:¬(65536:Int)<V.length+i.length:=ah;rw[aj q];refine aV ?_;simp[lJ,d,g,l,k,e,p]
def wrap32{n:Int}(h0:0<=n)(h1:n<4294967296):IntKind.u32.wrap n=n:=by
 have a:∀y:Int,IntKind.u32.wrap y=y%4294967296:=λy=>by simp[IntKind.wrap,IntKind.signed,IntKind.bits]
 rw[a];omega
def ofInt32(a:Nat)(b:a<4294967296):(BitVec.ofInt 32 (a:Int)).toNat=a:=by rw[vS];omega
def YU{a b:Nat}(c:a<4294967296)(d:b<4294967296):a ^^^ b<4294967296:=Nat.xor_lt_two_pow (n:=32) c d
def x32(a b:Nat)(c:a<4294967296)(d:b<4294967296):dh .xor .u32 (a:Int) (b:Int)=some (.i .u32 ((a ^^^ b:Nat):Int)):=by
 show some (GV.i IntKind.u32 (IntKind.u32.wrap ((BitVec.ofInt 32 (a:Int) ^^^ BitVec.ofInt 32 (b:Int)).toNat:Int)))=_
 have e:=YU c d;rw[BitVec.toNat_xor,ofInt32 a c,ofInt32 b d,wrap32 ah ah]
def anK(a:Nat)(b:a<4294967296):dh .and .u32 (a:Int) 15=some (.i .u32 ((a%16:Nat):Int)):=by
 have h:=ofInt32 15 aU;show some (GV.i IntKind.u32 (IntKind.u32.wrap ((BitVec.ofInt 32 (a:Int) &&& BitVec.ofInt 32 15).toNat:Int)))=_
 have e:a &&& 15=a%16:=aeR a 4;rw[Y0,ofInt32 a b,show(BitVec.ofInt 32 15).toNat=15 from h,e,wrap32 ah ah]
def alR(a:Nat):kM .shr .u32 (a:Int) 4=some (.i .u32 ((a:Int)/16)):=by
 show some (GV.i IntKind.u32 ((a:Int).fdiv (2^4)))=_
 rw[F5 _ aU];rfl
def Yn{r:Nat}(h:r<4294967296):bH r<4294967296:=by
 unfold bH;split
 ·exact YU ah aU
 ·omega
def adD{r:Nat}(h:r<4294967296):gU r<4294967296:=Yn (Yn (Yn (Yn h)))
def nib(y:Nat)(f:y<4294967296):(dh .and .u32 (y:Int) 15=some (.i .u32 0)/\dh .xor .u32 ((y:Int)/16) 0=some (.i .u32 (gU y:Nat)))\/(dh .and .u32 (y:Int) 15=some (.i .u32 1)/\dh .xor .u32 ((y:Int)/16) 498536548=some (.i .u32 (gU y:Nat)))\/(dh .and .u32 (y:Int) 15=some (.i .u32 2)/\dh .xor .u32 ((y:Int)/16) 997073096=some (.i .u32 (gU y:Nat)))\/(dh .and .u32 (y:Int) 15=some (.i .u32 3)/\dh .xor .u32 ((y:Int)/16) 651767980=some (.i .u32 (gU y:Nat)))\/(dh .and .u32 (y:Int) 15=some (.i .u32 4)/\dh .xor .u32 ((y:Int)/16) 1994146192=some (.i .u32 (gU y:Nat)))\/(dh .and .u32 (y:Int) 15=some (.i .u32 5)/\dh .xor .u32 ((y:Int)/16) 1802195444=some (.i .u32 (gU y:Nat)))\/(dh .and .u32 (y:Int) 15=some (.i .u32 6)/\dh .xor .u32 ((y:Int)/16) 1303535960=some (.i .u32 (gU y:Nat)))\/(dh .and .u32 (y:Int) 15=some (.i .u32 7)/\dh .xor .u32 ((y:Int)/16) 1342533948=some (.i .u32 (gU y:Nat)))\/(dh .and .u32 (y:Int) 15=some (.i .u32 8)/\dh .xor .u32 ((y:Int)/16) 3988292384=some (.i .u32 (gU y:Nat)))\/(dh .and .u32 (y:Int) 15=some (.i .u32 9)/\dh .xor .u32 ((y:Int)/16) 4027552580=some (.i .u32 (gU y:Nat)))\/(dh .and .u32 (y:Int) 15=some (.i .u32 10)/\dh .xor .u32 ((y:Int)/16) 3604390888=some (.i .u32 (gU y:Nat)))\/(dh .and .u32 (y:Int) 15=some (.i .u32 11)/\dh .xor .u32 ((y:Int)/16) 3412177804=some (.i .u32 (gU y:Nat)))\/(dh .and .u32 (y:Int) 15=some (.i .u32 12)/\dh .xor .u32 ((y:Int)/16) 2607071920=some (.i .u32 (gU y:Nat)))\/(dh .and .u32 (y:Int) 15=some (.i .u32 13)/\dh .xor .u32 ((y:Int)/16) 2262029012=some (.i .u32 (gU y:Nat)))\/(dh .and .u32 (y:Int) 15=some (.i .u32 14)/\dh .xor .u32 ((y:Int)/16) 2685067896=some (.i .u32 (gU y:Nat)))\/(dh .and .u32 (y:Int) 15=some (.i .u32 15)/\dh .xor .u32 ((y:Int)/16) 3183342108=some (.i .u32 (gU y:Nat))):=by
 have b:=anK y f;have c:∀T:Nat,T<4294967296->dh .xor .u32 ((y/16:Nat):Int) (T:Int)=some (.i .u32 ((y/16 ^^^ T:Nat):Int)):=λT g=>x32 _ T ah g;have d:y%16=0\/y%16=1\/y%16=2\/y%16=3\/y%16=4\/y%16=5\/y%16=6\/y%16=7\/y%16=8\/y%16=9\/y%16=10\/y%16=11\/y%16=12\/y%16=13\/y%16=14\/y%16=15:=ah;rcases d with h|h|h|h|h|h|h|h|h|h|h|h|h|h|h|h
 ·refine .inl ⟨?_,?_⟩
  ·rw[b,h];rfl
  ·have e:=aDR (y/16);rw[(ah:16*(y/16)=y)]at e;rw[e];have a:((y/16:Nat):Int)=(y:Int)/16:=ah;rw[<-a];exact c 0 aU
 ·refine .inr (.inl ⟨?_,?_⟩)
  ·rw[b,h];rfl
  ·have e:=aDS (y/16);rw[(ah:16*(y/16)+1=y)]at e;rw[e];have a:((y/16:Nat):Int)=(y:Int)/16:=ah;rw[<-a];exact c 498536548 aU
 ·refine .inr (.inr (.inl ⟨?_,?_⟩))
  ·rw[b,h];rfl
  ·have e:=aDZ (y/16);rw[(ah:16*(y/16)+2=y)]at e;rw[e];have a:((y/16:Nat):Int)=(y:Int)/16:=ah;rw[<-a];exact c 997073096 aU
 ·refine .inr (.inr (.inr (.inl ⟨?_,?_⟩)))
  ·rw[b,h];rfl
  ·have e:=aD0 (y/16);rw[(ah:16*(y/16)+3=y)]at e;rw[e];have a:((y/16:Nat):Int)=(y:Int)/16:=ah;rw[<-a];exact c 651767980 aU
 ·refine .inr (.inr (.inr (.inr (.inl ⟨?_,?_⟩))))
  ·rw[b,h];rfl
  ·have e:=aD1 (y/16);rw[(ah:16*(y/16)+4=y)]at e;rw[e];have a:((y/16:Nat):Int)=(y:Int)/16:=ah;rw[<-a];exact c 1994146192 aU
 ·refine .inr (.inr (.inr (.inr (.inr (.inl ⟨?_,?_⟩)))))
  ·rw[b,h];rfl
  ·have e:=aD2 (y/16);rw[(ah:16*(y/16)+5=y)]at e;rw[e];have a:((y/16:Nat):Int)=(y:Int)/16:=ah;rw[<-a];exact c 1802195444 aU
 ·refine .inr (.inr (.inr (.inr (.inr (.inr (.inl ⟨?_,?_⟩))))))
  ·rw[b,h];rfl
  ·have e:=aD3 (y/16);rw[(ah:16*(y/16)+6=y)]at e;rw[e];have a:((y/16:Nat):Int)=(y:Int)/16:=ah;rw[<-a];exact c 1303535960 aU
 ·refine .inr (.inr (.inr (.inr (.inr (.inr (.inr (.inl ⟨?_,?_⟩)))))))
  ·rw[b,h];rfl
  ·have e:=aD4 (y/16);rw[(ah:16*(y/16)+7=y)]at e;rw[e];have a:((y/16:Nat):Int)=(y:Int)/16:=ah;rw[<-a];exact c 1342533948 aU
 ·refine .inr (.inr (.inr (.inr (.inr (.inr (.inr (.inr (.inl ⟨?_,?_⟩))))))))
  ·rw[b,h];rfl
  ·have e:=aD5 (y/16);rw[(ah:16*(y/16)+8=y)]at e;rw[e];have a:((y/16:Nat):Int)=(y:Int)/16:=ah;rw[<-a];exact c 3988292384 aU
 ·refine .inr (.inr (.inr (.inr (.inr (.inr (.inr (.inr (.inr (.inl ⟨?_,?_⟩)))))))))
  ·rw[b,h];rfl
  ·have e:=aD6 (y/16);rw[(ah:16*(y/16)+9=y)]at e;rw[e];have a:((y/16:Nat):Int)=(y:Int)/16:=ah;rw[<-a];exact c 4027552580 aU
 ·refine .inr (.inr (.inr (.inr (.inr (.inr (.inr (.inr (.inr (.inr (.inl ⟨?_,?_⟩))))))))))
  ·rw[b,h];rfl
  ·have e:=aDT (y/16);rw[(ah:16*(y/16)+10=y)]at e;rw[e];have a:((y/16:Nat):Int)=(y:Int)/16:=ah;rw[<-a];exact c 3604390888 aU
 ·refine .inr (.inr (.inr (.inr (.inr (.inr (.inr (.inr (.inr (.inr (.inr (.inl ⟨?_,?_⟩)))))))))))
  ·rw[b,h];rfl
  ·have e:=aDU (y/16);rw[(ah:16*(y/16)+11=y)]at e;rw[e];have a:((y/16:Nat):Int)=(y:Int)/16:=ah;rw[<-a];exact c 3412177804 aU
 ·refine .inr (.inr (.inr (.inr (.inr (.inr (.inr (.inr (.inr (.inr (.inr (.inr (.inl ⟨?_,?_⟩))))))))))))
  ·rw[b,h];rfl
  ·have e:=aDV (y/16);rw[(ah:16*(y/16)+12=y)]at e;rw[e];have a:((y/16:Nat):Int)=(y:Int)/16:=ah;rw[<-a];exact c 2607071920 aU
 ·refine .inr (.inr (.inr (.inr (.inr (.inr (.inr (.inr (.inr (.inr (.inr (.inr (.inr (.inl ⟨?_,?_⟩)))))))))))))
  ·rw[b,h];rfl
  ·have e:=aDW (y/16);rw[(ah:16*(y/16)+13=y)]at e;rw[e];have a:((y/16:Nat):Int)=(y:Int)/16:=ah;rw[<-a];exact c 2262029012 aU
 ·refine .inr (.inr (.inr (.inr (.inr (.inr (.inr (.inr (.inr (.inr (.inr (.inr (.inr (.inr (.inl ⟨?_,?_⟩))))))))))))))
  ·rw[b,h];rfl
  ·have e:=aDX (y/16);rw[(ah:16*(y/16)+14=y)]at e;rw[e];have a:((y/16:Nat):Int)=(y:Int)/16:=ah;rw[<-a];exact c 2685067896 aU
 ·refine .inr (.inr (.inr (.inr (.inr (.inr (.inr (.inr (.inr (.inr (.inr (.inr (.inr (.inr (.inr (⟨?_,?_⟩)))))))))))))))
  ·rw[b,h];rfl
  ·have e:=aDY (y/16);rw[(ah:16*(y/16)+15=y)]at e;rw[e];have a:((y/16:Nat):Int)=(y:Int)/16:=ah;rw[<-a];exact c 3183342108 aU
def Qm(r c:Nat):Nat:=gU (gU (r ^^^ c))
def afJ{r c:Nat}(a:r<4294967296)(b:c<256):Qm r c<4294967296:=adD (adD (YU a ah))
def O5(r:Nat)(s:Q2):Nat:=s.foldl (λr c=>Qm r c.toNat) r
def al8:∀(s:Q2)(r:Nat),r<4294967296->O5 r s<4294967296
 |[],r,h=>h
 |c::s,r,h=>al8 s _ (afJ h (by have:=c.toNat_lt;omega))
set_option maxHeartbeats 8000000 in
def ayv(r:Nat)(j:r<4294967296)(c:UInt8)(s:Q2)(k l m:GV)(L:Int)(i:Nat)(f:Q3)(h:(i:Int)<L)(g:s[i]? =some c)(q:IntKind.i64.wrap ((i:Int)+1)=(i:Int)+1)
 (o:TT.lim 140 [.i .u32 (Qm r c.toNat:Nat),.s s,k,l,m,.zq L,.zq ((i:Int)+1),.i .u32 0,.i .u32 498536548,.i .u32 997073096,.i .u32 651767980,.i .u32 1994146192,.i .u32 1802195444,.i .u32 1303535960,.i .u32 1342533948,.i .u32 3988292384,.i .u32 4027552580,.i .u32 3604390888,.i .u32 3412177804,.i .u32 2607071920,.i .u32 2262029012,.i .u32 2685067896,.i .u32 3183342108]=some f):TT.lim 140 [.i .u32 (r:Nat),.s s,k,l,m,.zq L,.zq i,.i .u32 0,.i .u32 498536548,.i .u32 997073096,.i .u32 651767980,.i .u32 1994146192,.i .u32 1802195444,.i .u32 1303535960,.i .u32 1342533948,.i .u32 3988292384,.i .u32 4027552580,.i .u32 3604390888,.i .u32 3412177804,.i .u32 2607071920,.i .u32 2262029012,.i .u32 2685067896,.i .u32 3183342108]=some f:=by
 have D:=c.toNat_lt;have t:=wrap32 (n:=(c.toNat:Int)) ah ah;have X:=x32 r c.toNat j ah;have p:=YU j (ah:c.toNat<4294967296);unfold Qm at o;generalize r ^^^ c.toNat=x at *;have u:=alR x;have v:=adD p;have w:=nib x p;generalize gU x=y at *;have A:=alR y;have B:=nib y v;generalize gU y=z at *;rcases w with⟨a,b⟩|⟨a,b⟩|⟨a,b⟩|⟨a,b⟩|⟨a,b⟩|⟨a,b⟩|⟨a,b⟩|⟨a,b⟩|⟨a,b⟩|⟨a,b⟩|⟨a,b⟩|⟨a,b⟩|⟨a,b⟩|⟨a,b⟩|⟨a,b⟩|⟨a,b⟩
 all_goals as_aux_lemma=>
  refine aB ?_;simp -implicitDefEqProofs[h,g,t,X,a,u,b];rcases B with⟨d,e⟩|⟨d,e⟩|⟨d,e⟩|⟨d,e⟩|⟨d,e⟩|⟨d,e⟩|⟨d,e⟩|⟨d,e⟩|⟨d,e⟩|⟨d,e⟩|⟨d,e⟩|⟨d,e⟩|⟨d,e⟩|⟨d,e⟩|⟨d,e⟩|⟨d,e⟩
  all_goals simp -implicitDefEqProofs[d,A,e,q,o]
def aj8(s:Q2)(n:s.length<=100000000)(c d f:GV):∀(m i:Nat)(r:Nat),i+m=s.length->r<4294967296->
 TT.lim 140 [.i .u32 (r:Nat),.s s,c,d,f,.zq s.length,.zq i,.i .u32 0,.i .u32 498536548,.i .u32 997073096,.i .u32 651767980,.i .u32 1994146192,.i .u32 1802195444,.i .u32 1303535960,.i .u32 1342533948,.i .u32 3988292384,.i .u32 4027552580,.i .u32 3604390888,.i .u32 3412177804,.i .u32 2607071920,.i .u32 2262029012,.i .u32 2685067896,.i .u32 3183342108]=some [.zq 0,.i .u32 (O5 r (s.drop i):Nat)]
 |0,i,r,hi,g=>by
  have e:s.drop i=[]:=iE;have h:¬((i:Int)<s.length):=ah;rw[e];show _=some [GV.zq 0,.i .u32 (r:Nat)]
  refine aB ?_;simp[h]
 |m+1,i,r,hi,g=>by have b:i<s.length:=ah;have j:s.drop i=s[i]::s.drop (i+1):=iG b;have k:s[i]? =some s[i]:=bV b;have a:((i+1:Nat):Int)=(i:Int)+1:=ah;have o:=bI ((i:Int)+1);have l:=aj8 s n c d f m (i+1) (Qm r s[i].toNat) ah (afJ g (by have:=s[i].toNat_lt;omega));rw[a]at l;rw[j];exact ayv r g s[i] s c d f s.length i _ ah k o l
def ajW(a:Nat)(b:a<4294967296):dh .xor .u32 4294967295 (a:Int)=some (.i .u32 ((4294967295-a:Nat):Int)):=by
 show some (GV.i IntKind.u32 (IntKind.u32.wrap ((BitVec.ofInt 32 4294967295 ^^^ BitVec.ofInt 32 (a:Int)).toNat:Int)))=_
 have e:BitVec.ofInt 32 4294967295=BitVec.allOnes 32:=aU;rw[e,BitVec.xor_comm,aek,aei,ofInt32 a b,wrap32 ah ah]
def ji(s:Q2):Nat:=4294967295-O5 4294967295 s
def agw(s:Q2):ji s<4294967296:=by unfold ji;omega
def aEg:TT.lim 138 []=some [.g [.i .u32 0,.i .u32 498536548,.i .u32 997073096,.i .u32 651767980,.i .u32 1994146192,.i .u32 1802195444,.i .u32 1303535960,.i .u32 1342533948,.i .u32 3988292384,.i .u32 4027552580,.i .u32 3604390888,.i .u32 3412177804,.i .u32 2607071920,.i .u32 2262029012,.i .u32 2685067896,.i .u32 3183342108]]:=BN (Ds:=Ds) (f:=Yp) rfl rfl
def aap(s:Q2)(d:s.length<=100000000):TT.lim 136 [.l [.s s]]=some [.i .u32 (ji s:Nat)]:=by
 have a:=aj8 s d (.l [.s s]) (.zq 1) (.zq 0) s.length 0 4294967295 ah aU;rw[dY]at a;have a:TT.lim 140 [.i .u32 4294967295,.s s,.l [.s s],.zq 1,.zq 0,.zq s.length,.zq 0,.i .u32 0,.i .u32 498536548,.i .u32 997073096,.i .u32 651767980,.i .u32 1994146192,.i .u32 1802195444,.i .u32 1303535960,.i .u32 1342533948,.i .u32 3988292384,.i .u32 4027552580,.i .u32 3604390888,.i .u32 3412177804,.i .u32 2607071920,.i .u32 2262029012,.i .u32 2685067896,.i .u32 3183342108]=some [.zq 0,.i .u32 (O5 4294967295 s:Nat)]:=a;have b:=al8 s 4294967295 aU;have e:=ajW (O5 4294967295 s) b;unfold ji;have f:=aEg;have w0:IntKind.i64.wrap 1=1:=aU;generalize O5 4294967295 s=Z at *;have g:TT.lim 139 [.i .u32 (Z:Nat),.l [.s s],.zq 1,.zq 1,.i .u32 0,.i .u32 498536548,.i .u32 997073096,.i .u32 651767980,.i .u32 1994146192,.i .u32 1802195444,.i .u32 1303535960,.i .u32 1342533948,.i .u32 3988292384,.i .u32 4027552580,.i .u32 3604390888,.i .u32 3412177804,.i .u32 2607071920,.i .u32 2262029012,.i .u32 2685067896,.i .u32 3183342108]=some [.zq 0,.i .u32 (Z:Nat)]:=by refine aB ?_;simp
 have h:TT.lim 139 [.i .u32 4294967295,.l [.s s],.zq 1,.zq 0,.i .u32 0,.i .u32 498536548,.i .u32 997073096,.i .u32 651767980,.i .u32 1994146192,.i .u32 1802195444,.i .u32 1303535960,.i .u32 1342533948,.i .u32 3988292384,.i .u32 4027552580,.i .u32 3604390888,.i .u32 3412177804,.i .u32 2607071920,.i .u32 2262029012,.i .u32 2685067896,.i .u32 3183342108]=some [.zq 0,.i .u32 (Z:Nat)]:=by refine aB ?_;simp[a,w0,g]
 have i:dh .xor .u32 4294967295 0=some (.i .u32 4294967295):=ajW 0 aU;have j:∀n:Int,YK .xor (some (.i .u32 n))=dh .xor .u32 4294967295 n:=λ_=>rfl;have c:TT.lim 137 [.i .u32 0,.l [.s s]]=some [.i .u32 (4294967295-Z:Nat)]:=by refine aV ?_;simp[f,j,i,h,e]
 refine aV ?_;simp[c]
def TN(n:Int):IntKind.u8.wrap n=n%256:=by simp[IntKind.wrap,IntKind.signed,IntKind.bits]
def le4(n:Nat):Q2:=[UInt8.ofNat (n%256),UInt8.ofNat (n/256%256),UInt8.ofNat (n/65536%256),UInt8.ofNat (n/16777216%256)]
def jw(p:Q2):Q2:=[81,70]++aS p.length++p++le4 (ji p)
def awM(n:Nat):oJ [.i .u8 ((n:Int)%256),.i .u8 ((n:Int)/256%256),.i .u8 ((n:Int)/65536%256),.i .u8 ((n:Int)/16777216%256)]=some (le4 n):=by
 have a:∀(x:Int)(r:Q3),0<=x->x<256->oJ (.i .u8 x::r)=(oJ r).map (UInt8.ofNat x.toNat::·):=λx r b c=>by
  show(if _ then _ else _)=_
  rw[au ⟨b,c⟩]
 rw[a _ _ ah ah,a _ _ ah ah,a _ _ ah ah,a _ _ ah ah];show some _=_
 unfold le4;congr 5<;>omega
def aDw(a:Nat):kM .shr .u32 (a:Int) 8=some (.i .u32 ((a:Int)/256)):=by
 show some (GV.i IntKind.u32 ((a:Int).fdiv (2^8)))=_
 rw[F5 _ aU];rfl
def aDs(a:Nat):kM .shr .u32 (a:Int) 16=some (.i .u32 ((a:Int)/65536)):=by
 show some (GV.i IntKind.u32 ((a:Int).fdiv (2^16)))=_
 rw[F5 _ aU];rfl
def aDu(a:Nat):kM .shr .u32 (a:Int) 24=some (.i .u32 ((a:Int)/16777216)):=by
 show some (GV.i IntKind.u32 ((a:Int).fdiv (2^24)))=_
 rw[F5 _ aU];rfl
def amZ(p:Q2)(r:p.length<=65536):TT.lim 135 [.s p]=some [.s (jw p),.zq 0]:=by have c:=aap p ah;have d:=agw p;have e:=zC p.length ah;have f:=oU (n:=p.length) ah;have g:=jL ((p.length:Int));have h:¬(65536:Int)<p.length:=ah;have i:(2:Int)+(aS p.length).length<=9223372036854775807:=ah;have j:((aS p.length).length:Int)+1+1+p.length<=9223372036854775807:=ah;have k:((aS p.length).length:Int)+p.length+1+1+4<=9223372036854775807:=ah;unfold jw;have l:=awM (ji p);have m:(le4 (ji p)).length=4:=rfl;have s8:=aDw (ji p);have a:=aDs (ji p);have b:=aDu (ji p);generalize ji p=n,aS p.length=V at *;have w0:=TN (n:Int);have w1:=TN ((n:Int)/256);have o:=TN ((n:Int)/65536);have q:=TN ((n:Int)/16777216);generalize le4 n=s,(n:Int)%256=t,(n:Int)/256%256=u,(n:Int)/65536%256=v,(n:Int)/16777216%256=w at *;refine aV ?_;simp -implicitDefEqProofs[-List.append_assoc,h,c,e,g,s8,a,b,w0,w1,o,q,l,m,i,j,k]
def QM(b:aQ)(a:List aK)(v:Int):(xB b a v).1.length<=65536:=by
 unfold xB;split
 ·split
  ·simp
  ·simp only;omega
 ·simp
