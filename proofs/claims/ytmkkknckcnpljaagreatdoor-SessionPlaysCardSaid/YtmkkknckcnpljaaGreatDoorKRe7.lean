/- What the trees compute: plain laws. -/
import Derived.Test.YtmkkknckcnpljaaGreatDoorKRe6
set_option linter.all false
namespace Go.Proofs.YtmkkknckcnpljaaGreatDoor
open Go Go.aO
set_option maxRecDepth 100000
namespace R
mutual
def OZ:aH->List UInt8
 |.mk t y n s k=>aV (4*t+y).toNat++(if y=0 then aV n.toNat else if y=1 then aV s.length++s else aV (bW k).length++bW k)
def bW:List aH->List UInt8
 |[]=>[]
 |f::l=>OZ f++bW l
end
mutual
def wF:aH->Nat
 |.mk _ _ _ s k=>s.length+40+wL k
def wL:List aH->Nat
 |[]=>0
 |f::l=>wF f+wL l
end
mutual
def JH:aH->Prop
 |.mk t y n s k=>(1<=t/\t<=4294967296)/\((y=0/\s=[]/\k=[])\/(y=1/\n=0/\k=[])\/(y=2/\n=0/\s=[]))/\vH k
def vH:List aH->Prop
 |[]=>True
 |f::l=>JH f/\vH l
end
def Wh:∀{l:List aH},vH l->∀f∈l,JH f
 |f::l,h,g,a=>by
  simp only[vH]at h;rcases bD.1 a with rfl|a
  ·exact h.1
  ·exact Wh h.2 g a
def SK:∀(N:Nat)(l:List aH),cZ l<N->dO l->∀w a,gJ w a l=0->0<=a->vH l
 |0,l,h,_,_,_,_,_=>by omega
 |N+1,[],_,_,_,_,_,_=>by simp only[vH]
 |N+1,.mk t y n s k::l,j,d,w,a,h,m=>by
  simp only[cZ,qZ]at j;simp only[dO,qF]at d;unfold gJ at h;by_cases h1:(aH.mk t y n s k).tag=0
  ·rw[aj h1]at h;exact absurd h (by decide)
  rw[ah h1]at h;by_cases g:4294967296<(aH.mk t y n s k).tag
  ·rw[aj g]at h;exact absurd h (by decide)
  rw[ah g]at h;by_cases i:(aH.mk t y n s k).tag<=a
  ·rw[aj i]at h;exact absurd h (by decide)
  rw[ah i]at h;by_cases b:yI w (.mk t y n s k)=0;rotate_left
  ·rw[aj b]at h;exact absurd h b
  rw[ah (λe=>e b)]at h;have h1:¬t=0:=h1;have g:¬4294967296<t:=g;have i:¬t<=a:=i;simp only[vH,JH];refine⟨⟨by omega,?_,?_⟩,SK N l (by omega) d.2 w t h (by omega)⟩
  ·simp only[yI]at b;split at b
   ·rename_i f
    split at b
    ·rename_i c;exact .inl ⟨f,c⟩
    ·cases b
   ·split at b
    ·rename_i f
     split at b
     ·rename_i c;exact .inr (.inl ⟨f,c⟩)
     ·cases b
    ·split at b
     ·rename_i f
      split at b
      ·rename_i c;exact .inr (.inr ⟨f,c⟩)
      ·cases b
     ·cases b
  ·simp only[yI]at b;split at b
   ·split at b
    ·rename_i c;rw[c.2];simp only[vH]
    ·cases b
   ·split at b
    ·split at b
     ·rename_i c;rw[c.2];simp only[vH]
     ·cases b
    ·split at b
     ·split at b
      ·split at b
       ·cases b
       ·exact SK N k (by omega) d.1.2 _ _ b (by omega)
      ·cases b
     ·cases b
def IJ:∀(N:Nat)(l:List aH),cZ l<N->dO l->vH l->wL l<=1000000000000->(bW l).length<=wL l
 |0,l,h,_,_,_=>by omega
 |N+1,[],_,_,_,_=>by simp[bW]
 |N+1,.mk t y n s k::l,c,b,a,d=>by
  simp only[cZ,qZ]at c;simp only[dO,qF]at b;simp only[vH,JH]at a;simp only[wL,wF]at d⊢;have h1:=IJ N l (by omega) b.2 a.2 (by omega);have e:=IJ N k (by omega) b.1.2 a.1.2.2 (by omega);simp only[bW,OZ,eX];have f:=jk (n:=(4*t+y).toNat) (by rcases a.1.2.1 with h|h|h<;>omega);have g:=jk (n:=n.toNat) (by omega);have i:=jk (n:=s.length) (by omega);have j:=jk (n:=(bW k).length) (by omega);split
  ·omega
  ·split
   ·rw[eX];omega
   ·rw[eX];omega
def afx(t y:Int)(h:1<=t/\t<=4294967296)(j:0<=y/\y<4):oW .shl .u64 t 2=some (.i .u64 (4*t))/\IntKind.u64.wrap y=y/\gG .or .u64 (4*t) y=some (.i .u64 (4*t+y)):=by
 have a:∀y:Int,IntKind.u64.wrap y=y%18446744073709551616:=λy=>by simp[IntKind.wrap,IntKind.signed,IntKind.bits]
 have c:IntKind.u64.bits=64:=rfl;refine⟨?_,by rw[a];omega,?_⟩
 ·have d:oW .shl .u64 t 2=some (.i .u64 (IntKind.u64.wrap (t*2^2))):=rfl;rw[d,a];congr 2;omega
 ·simp only[gG,a,c];obtain⟨T,rfl⟩:∃T:Nat,t=(T:Int):=⟨t.toNat,by omega⟩
  obtain⟨Y,rfl⟩:∃Y:Nat,y=(Y:Int):=⟨y.toNat,by omega⟩
  have e:(BitVec.ofInt 64 (4*(T:Int))).toNat=4*T:=by rw[xB];omega
  have f:(BitVec.ofInt 64 (Y:Int)).toNat=Y:=by rw[xB];omega
  have g:4*T |||Y=4*T+Y:=(akA (i:=2) (b:=Y) (by omega) T).symm;show some (GV.i IntKind.u64 (((BitVec.ofInt 64 (4*(T:Int)) |||BitVec.ofInt 64 (Y:Int)).toNat:Int)%18446744073709551616))=_
  rw[BitVec.toNat_or,e,f,g];congr 2;omega
def YE{t y n:Int}{s:Q0}{k:List aH}(h:JH (.mk t y n s k)):1<=t/\t<=4294967296/\0<=y/\y<3/\(y=0\/y=1\/y=2)/\vH k:=by simp only[JH]at h;rcases h.2.1 with h1|h1|h1<;>exact⟨h.1.1,h.1.2,by omega,by omega,by omega,h.2.2⟩
def abx:∀(N:Nat)(l:List aH),cZ l<N->dO l->vH l->l.length<=1000000->wL l<=1000000000000->TT.lim 102 [.l (aC l)]=some [.i .i64 (bW l).length]
 |0,l,h,_,_,_,_=>by omega
 |N+1,l,hN,w,x,L,hw=>by
  have g:=jg l;have loop:∀m i,i+m=l.length->∀b:Nat,b+wL (l.drop i)<=1000000000000->TT.lim 103 [.l (aC l),.i .i64 b,.i .i64 l.length,.i .i64 i]=some [.i .i64 0,.i .i64 ((b+(bW (l.drop i)).length:Nat):Int)]:=by
   intro m;induction m with
   |zero=>
    intro i hi b c;have z:l.drop i=[]:=cO (by omega);have h:¬((i:Int)<l.length):=by omega
    rw[z];simp only[bW,nZ,lD];refine au rfl rfl ?_;simp[h]
   |succ m P=>
    intro i hi b c;obtain⟨t,y,n,s,k,g1,g2,Q,D⟩:=yK (l:=l) (i:=i) (by omega);have u:=zK w _ D;have S:=Wh x _ D;simp only[qF]at u;obtain⟨T,U,V,y2,W,M⟩:=YE S;have X:=MV D;simp only[qZ]at X;rw[Q]at c⊢;simp only[wL,wF]at c;have Y:=abx N k (by omega) u.2 M u.1.2.2.2.2.2.2.2 (by omega);have Z:=IJ (cZ k+1) k (by omega) u.2 M (by omega);obtain⟨E,F,G⟩:=afx t y ⟨T,U⟩ ⟨V,by omega⟩;have v:=Qj (4*t+y).toNat (by omega);have O:=Qj n.toNat (by omega);have v3:=Qj s.length (by omega);have v4:=Qj (bW k).length (by omega);have z1:=JL (n:=(4*t+y).toNat) (by omega);have z2:=JL (n:=n.toNat) (by omega);have z3:=JL (n:=s.length) (by omega);have z4:=JL (n:=(bW k).length) (by omega);rw[show(((4*t+y).toNat:Nat):Int)=4*t+y by omega]at v;rw[show((n.toNat:Nat):Int)=n by omega]at O;have j:((i+1:Nat):Int)=(i:Int)+1:=by omega
    have o:=wrap64 (n:=(i:Int)+1) (by omega) (by omega);have h:((i:Int)<l.length):=by omega
    have e:=λa ha=>P (i+1) (by omega) a ha;simp only[j]at e;have z:(aV (4*t+y).toNat).length=lu (4*t+y).toNat:=rfl;have e2:(aV n.toNat).length=lu n.toNat:=rfl;have e3:(aV s.length).length=lu s.length:=rfl;have e4:(aV (bW k).length).length=lu (bW k).length:=rfl;have u3:=dn (n:=(s.length:Int)) (by omega) (by omega);have u4:=dn (n:=((bW k).length:Int)) (by omega) (by omega);simp only[bW,OZ,eX];rw[z];generalize lu (4*t+y).toNat=A at *;have w1:=wrap64 (n:=(b:Int)+A) (by omega) (by omega);rcases W with d|d|d
    ·rw[aj d,e2];generalize lu n.toNat=B at *;have p:=wrap64 (n:=(b:Int)+A+B) (by omega) (by omega);have f:=e (b+A+B) (by omega);rw[show((b+A+B:Nat):Int)=(b:Int)+A+B by omega,show b+A+B+(bW (l.drop (i+1))).length=b+(A+B+(bW (l.drop (i+1))).length) by omega]at f;have q:(y=0)=True:=eq_true d;clear d;refine au rfl rfl ?_;simp[h,g2,q,E,F,G,v,O,w1,p,o,f]
    ·rw[ah (by omega),aj d,eX,e3];generalize lu s.length=B at *;have p:=wrap64 (n:=(B:Int)+s.length) (by omega) (by omega);have H:=wrap64 (n:=(b:Int)+A+(B+s.length)) (by omega) (by omega);have f:=e (b+A+(B+s.length)) (by omega);rw[show((b+A+(B+s.length):Nat):Int)=(b:Int)+A+(B+s.length) by omega,show b+A+(B+s.length)+(bW (l.drop (i+1))).length=b+(A+(B+s.length)+(bW (l.drop (i+1))).length) by omega]at f;have q:(y=0)=False:=eq_false (by omega);have I:(y=1)=True:=eq_true d;clear d;refine au rfl rfl ?_;simp[h,g2,q,I,E,F,G,v,v3,u3,w1,p,H,o,f]
    ·rw[ah (by omega),ah (by omega),eX,e4];generalize lu (bW k).length=B at *;generalize(bW k).length=C at *;have p:=wrap64 (n:=(B:Int)+C) (by omega) (by omega);have H:=wrap64 (n:=(b:Int)+A+(B+C)) (by omega) (by omega);have f:=e (b+A+(B+C)) (by omega);rw[show((b+A+(B+C):Nat):Int)=(b:Int)+A+(B+C) by omega,show b+A+(B+C)+(bW (l.drop (i+1))).length=b+(A+(B+C)+(bW (l.drop (i+1))).length) by omega]at f;have q:(y=0)=False:=eq_false (by omega);have I:(y=1)=False:=eq_false (by omega);have q2:(y=2)=True:=eq_true d;clear d;refine au rfl rfl ?_;simp[h,g2,q,I,q2,E,F,G,v,Y,v4,u4,w1,p,H,o,f]
  have J:=loop l.length 0 (by omega) 0 (by rw[bK];omega);rw[bK,jQ]at J;have r:TT.lim 103 [.l (aC l),.i .i64 0,.i .i64 (aC l).length,.i .i64 0]=some [.i .i64 0,.i .i64 ((bW l).length:Int)]:=by rw[g];exact J
  rw[g]at r;clear loop J;refine aG rfl rfl ?_ rfl;simp[g,r]
def Ib(a b:Q0):dw (a++b)=dw a++dw b:=by simp[dw]
def akl:∀(N:Nat)(l:List aH),cZ l<N->dO l->vH l->l.length<=1000000->∀B:Q0,B.length+wL l<=1000000000000->TT.lim 104 [.l (dw B),.l (aC l)]=some [.i .i64 0,.l (dw (B++bW l))]
 |0,l,h,_,_,_,_,_=>by omega
 |N+1,l,hN,x,D,S,B,hB=>by
  have E:=jg l;have loop:∀m i,i+m=l.length->∀b:Q0,b.length+wL (l.drop i)<=1000000000000->TT.lim 105 [.l (dw b),.l (aC l),.i .i64 l.length,.i .i64 i]=some [.i .i64 0,.l (dw (b++bW (l.drop i)))]:=by
   intro m;induction m with
   |zero=>
    intro i hi b c;have U:l.drop i=[]:=cO (by omega);have h:¬((i:Int)<l.length):=by omega
    rw[U];simp only[bW,ng];refine au rfl rfl ?_;simp[h]
   |succ m V=>
    intro i hi b c;obtain⟨t,y,n,s,k,g1,g2,W,F⟩:=yK (l:=l) (i:=i) (by omega);have p:=zK x _ F;have X:=Wh D _ F;simp only[qF]at p;obtain⟨Y,Z,y1,y2,y3,G⟩:=YE X;have hs:=MV F;simp only[qZ]at hs;rw[W]at c⊢;simp only[wL,wF]at c;have hk:=abx N k (by omega) p.2 G p.1.2.2.2.2.2.2.2 (by omega);have aa:=IJ (cZ k+1) k (by omega) p.2 G (by omega);obtain⟨H,I,J⟩:=afx t y ⟨Y,Z⟩ ⟨y1,by omega⟩;have w:=yS (4*t+y).toNat (by omega);have T:=yS n.toNat (by omega);have v3:=yS s.length (by omega);have v4:=yS (bW k).length (by omega);have z1:=jk (n:=(4*t+y).toNat) (by omega);have z2:=jk (n:=n.toNat) (by omega);have z3:=jk (n:=s.length) (by omega);have z4:=jk (n:=(bW k).length) (by omega);rw[show(((4*t+y).toNat:Nat):Int)=4*t+y by omega]at w;rw[show((n.toNat:Nat):Int)=n by omega]at T;have j:((i+1:Nat):Int)=(i:Int)+1:=by omega
    have o:=wrap64 (n:=(i:Int)+1) (by omega) (by omega);have h:((i:Int)<l.length):=by omega
    have e:=λa ha=>V (i+1) (by omega) a ha;simp only[j]at e;have u3:=dn (n:=(s.length:Int)) (by omega) (by omega);have u4:=dn (n:=((bW k).length:Int)) (by omega) (by omega);have L:∀z:Q0,(dw z).all (λg=>g.dZ 1)=true:=λz=>by simp[dw,GV.dZ]
    have M:∀z:Q0,(dw z).length=z.length:=λz=>by simp[dw]
    simp only[bW,OZ];rcases y3 with d|d|d
    ·rw[aj d];have f:=e (b++aV (4*t+y).toNat++aV n.toNat) (by simp only[eX];omega);rw[show b++aV (4*t+y).toNat++aV n.toNat++bW (l.drop (i+1))=b++(aV (4*t+y).toNat++aV n.toNat++bW (l.drop (i+1))) by simp,Ib,Ib]at f;generalize aV (4*t+y).toNat=A at *;generalize aV n.toNat=C at *;have q:2*(b.length+A.length)<=281474976710656/\b.length+A.length<=281474976710656:=by omega
     have r:2*(b.length+A.length+C.length)<=281474976710656/\b.length+A.length+C.length<=281474976710656:=by omega
     have u:(y=0)=True:=eq_true d;clear d;refine au rfl rfl ?_;simp[-List.append_assoc,h,g2,u,H,I,J,w,T,o,f,L,M,q,r]
    ·rw[ah (by omega),aj d];have f:=e (b++aV (4*t+y).toNat++aV s.length++s) (by simp only[eX];omega);rw[show b++aV (4*t+y).toNat++aV s.length++s++bW (l.drop (i+1))=b++(aV (4*t+y).toNat++(aV s.length++s)++bW (l.drop (i+1))) by simp,Ib,Ib,Ib]at f;generalize aV (4*t+y).toNat=A at *;generalize aV s.length=C at *;have q:2*(b.length+A.length)<=281474976710656/\b.length+A.length<=281474976710656:=by omega
     have r:2*(b.length+A.length+C.length)<=281474976710656/\b.length+A.length+C.length<=281474976710656:=by omega
     have c3:2*(b.length+A.length+C.length+s.length)<=281474976710656/\b.length+A.length+C.length+s.length<=281474976710656:=by omega
     have u:(y=0)=False:=eq_false (by omega);have O:(y=1)=True:=eq_true d;clear d;refine au rfl rfl ?_;simp[-List.append_assoc,h,g2,u,O,H,I,J,w,v3,u3,o,f,L,M,q,r,c3]
    ·rw[ah (by omega),ah (by omega)];have v:=akl N k (by omega) p.2 G p.1.2.2.2.2.2.2.2 (b++aV (4*t+y).toNat++aV (bW k).length) (by simp only[eX];omega);have f:=e (b++aV (4*t+y).toNat++aV (bW k).length++bW k) (by simp only[eX];omega);rw[show b++aV (4*t+y).toNat++aV (bW k).length++bW k++bW (l.drop (i+1))=b++(aV (4*t+y).toNat++(aV (bW k).length++bW k)++bW (l.drop (i+1))) by simp]at f;rw[Ib (b++_),Ib b]at v;generalize aV (4*t+y).toNat=A at *;generalize aV (bW k).length=C at *;have q:2*(b.length+A.length)<=281474976710656/\b.length+A.length<=281474976710656:=by omega
     have r:2*(b.length+A.length+C.length)<=281474976710656/\b.length+A.length+C.length<=281474976710656:=by omega
     generalize bW k=K at *;have u:(y=0)=False:=eq_false (by omega);have O:(y=1)=False:=eq_false (by omega);have q2:(y=2)=True:=eq_true d;clear d;refine au rfl rfl ?_;simp[-List.append_assoc,h,g2,u,O,q2,H,I,J,w,hk,v4,u4,v,o,f,L,M,q,r]
  have P:=loop l.length 0 (by omega) B (by rw[bK];omega);rw[bK]at P;have Q:TT.lim 105 [.l (dw B),.l (aC l),.i .i64 l.length,.i .i64 0]=some [.i .i64 0,.l (dw (B++bW l))]:=P;clear loop P;generalize dw B=B' at *;refine au rfl rfl ?_;simp[E,Q]
def awG{α β:Type}{f:α->β}{n o:List β}(h:n.Perm o):∀l:List α,o=l.map f->∃p:List α,p.Perm l/\n=p.map f:=by
 induction h with
 |nil=>intro l e;exact⟨l,.refl _,e⟩
 |cons x _ r=>
  intro l e;cases l with
  |nil=>cases e
  |cons a l=>
   injection e with c d
   obtain⟨p,g,i⟩:=r l d;exact⟨a::p,g.cons a,by rw[gX,<-i,<-c]⟩
 |swap x y l=>
  intro m e;rcases m with _|⟨a,_|⟨b,m⟩⟩
  ·cases e
  ·cases e
  ·simp only[gX,xE]at e;obtain⟨c,d,s⟩:=e;exact⟨b::a::m,List.Perm.swap a b m,by rw[gX,gX,<-c,<-d,<-s]⟩
 |trans _ _ j k=>intro l e;obtain⟨p,g,i⟩:=k l e;obtain⟨q,t,u⟩:=j p i;exact⟨q,t.trans g,u⟩
def ajn:∀(p q:List aH),p.Perm q->p.Pairwise (λa b=>a.tag<=b.tag)->q.Pairwise (λa b=>a.tag<b.tag)->p=q
 |[],q,h,_,_=>(List.nil_perm.1 h).symm
 |a::p,[],h,_,_=>by have:=h.length_eq;simp at this
 |a::p,b::q,h,c,d=>by
  have f:b∈a::p:=h.mem_iff.2 (by simp);have g:a∈b::q:=h.mem_iff.1 (by simp);rw[iK]at c d;have i:a.tag<=b.tag:=by
   rcases bD.1 f with e|f
   ·rw[e];exact QH _
   ·exact c.1 b f
  have e:a=b:=by
   rcases bD.1 g with e|g
   ·exact e
   ·have:=d.1 a g;omega
  subst e;rw[ajn p q (List.Perm.cons_inv h) c.2 d.2]
def nY(f:aH):List aH->Nat
 |[]=>0
 |g::l=>if g.tag<f.tag then nY f l+1 else 0
def ah0(f:aH):∀l,nY f l<=l.length
 |[]=>dY _
 |g::l=>by
  unfold nY;have:=ah0 f l;split
  ·simp only[jw];omega
  ·omega
def yc(f:aH)(a:List aH):List aH:=a.take (nY f a)++f::a.drop (nY f a)
def su(a l:List aH):List aH:=l.foldl (λo f=>yc f o) a
def Uo(f:aH)(a:List aH):(yc f a).Perm (f::a):=by unfold yc;refine QM.trans ?_;rw[EF]
def Zn(f:aH):∀d:List aH,d.Pairwise (λa b=>a.tag<b.tag)->(∀g∈d,g.tag≠f.tag)->(yc f d).Pairwise (λa b=>a.tag<b.tag)/\(∀g,d[nY f d]? =some g->g.tag≠f.tag)
 |[],_,_=>by simp[yc,nY]
 |g::l,e,i=>by
  rw[iK]at e;unfold yc nY;by_cases h:g.tag<f.tag
  ·obtain⟨j,k⟩:=Zn f l e.2 λx c=>i x (by simp[c]);rw[aj h];simp only[AA,WM,bJ,uH];refine⟨List.pairwise_cons.2 ⟨λx c=>?_,j⟩,k⟩;have:=(Uo f l).mem_iff.1 c;rcases bD.1 this with rfl|c
   ·exact h
   ·exact e.1 x c
  ·rw[ah h];have m:=i g (by simp);simp only[QS,bK,aW,kW];refine⟨List.pairwise_cons.2 ⟨λx c=>?_,iK.2 e⟩,λx c=>?_⟩
   ·rcases bD.1 c with rfl|c
    ·omega
    ·have:=e.1 x c;omega
   ·injection c with c
    rw[<-c];exact m
def Um:∀(l c:List aH),c.Pairwise (λa b=>a.tag<b.tag)->((c++l).map aH.tag).Nodup->(su c l).Perm (c++l)/\(su c l).Pairwise (λa b=>a.tag<b.tag)
 |[],c,d,_=>by simp only[su,List.foldl_nil,ng];exact⟨.refl _,d⟩
 |f::l,c,d,h=>by
  have k:∀g∈c,g.tag≠f.tag:=λg m e=>by rw[jG,QL]at h;exact h.2.2 g.tag (acL m) f.tag (by simp) e
  have n:=(Zn f c d k).1;have i:(yc f c++l).Perm (c++f::l):=((Uo f c).append_right l).trans (QM.symm);have j:=Um l (yc f c) n ((i.map aH.tag).nodup_iff.2 h);exact⟨j.1.trans i,j.2⟩
def TK(l:List aH):(aC l).all (λg=>g.dZ 5)=true:=by rw[rW,List.all_eq_true];intro g a;obtain⟨f,_,rfl⟩:=nR.1 a;cases f;simp only[iE];rfl
def arO(l:List aH):(aC l).all (λg=>Nat.beq g.cells.length 5)=true:=by rw[rW,List.all_eq_true];intro g a;obtain⟨f,_,rfl⟩:=nR.1 a;cases f;simp only[iE];rfl
def arR(l:List aH)(n:Nat):(aC l).take n=aC (l.take n):=by simp only[rW,WX]
def arQ(l:List aH)(n:Nat):(aC l).drop n=aC (l.drop n):=by simp only[rW,WW]
def Fp(a b:List aH):aC (a++b)=aC a++aC b:=by simp only[rW,jG]
def aiM(a:List aH)(e:a.length<=10000000)(t y n:Int)(s:Q0)(k:List aH)(w x z A B D:GV):∀m i:Nat,i+m=a.length->∃r,TT.lim 204 [.l (aC a),.i .i64 i,w,x,z,A,B,D,.i .u64 t,.i .i64 y,.i .u64 n,.s s,.l (aC k)]=some r/\
 ((∃g,a[i+nY (.mk t y n s k) (a.drop i)]? =some g/\r=[.i .i64 0,.i .i64 (i+nY (.mk t y n s k) (a.drop i):Nat),iE g,.i .u64 g.tag])\/(i+nY (.mk t y n s k) (a.drop i)=a.length/\r=[.i .i64 1,.i .i64 (i+nY (.mk t y n s k) (a.drop i):Nat)]))
 |0,i,hi=>by
  have h:¬((i:Int)<a.length):=by omega
  have u:=jg a;have E:a.drop i=[]:=cO (by omega);rw[E];simp only[nY,lD];refine⟨_,?_,.inr ⟨by omega,rfl⟩⟩;refine au rfl rfl ?_;simp[u,h]
 |m+1,i,hi=>by
  have h:((i:Int)<a.length):=by omega
  have u:=jg a;have F:=wrap64 (n:=(i:Int)+1) (by omega) (by omega);obtain⟨b,f,j,o,p,g1,g2,G,I⟩:=yK (l:=a) (i:=i) (by omega);obtain⟨r,q,v⟩:=aiM a e t y n s k w x z A B D m (i+1) (by omega);have d:((i+1:Nat):Int)=(i:Int)+1:=by omega
  rw[d]at q;rw[G];unfold nY;by_cases c:b<t
  ·have J:nY (.mk t y n s k) (.mk b f j o p::a.drop (i+1))=nY (.mk t y n s k) (a.drop (i+1))+1:=by
    show(if b<t then _ else _)=_
    rw[aj c]
   rw[aj (show aH.tag (.mk b f j o p)<aH.tag (.mk t y n s k)from c)];rw[show i+(nY (.mk t y n s k) (a.drop (i+1))+1)=i+1+nY (.mk t y n s k) (a.drop (i+1)) by omega];refine⟨r,?_,v⟩;refine au rfl rfl ?_;simp[u,h,g2,c,F,q]
  ·rw[ah (show ¬aH.tag (.mk b f j o p)<aH.tag (.mk t y n s k)from c)];refine⟨_,?_,.inl ⟨_,g1,rfl⟩⟩;have H:iE (.mk b f j o p)=ig b f j o p:=by simp only[iE];rfl
   rw[H];refine au rfl rfl ?_;simp[u,h,g2,c,aH.tag]
def abf(p F:List aH)(L T U:GV)(hF:F.length<=1000000):∀(m j:Nat)(c:List aH),j+m=F.length->c.length+m<=5000000->c.Pairwise (λa b=>a.tag<b.tag)->((c++F.drop j).map aH.tag).Nodup->
 TT.lim 203 [.l (aC c),L,T,U,.l (aC F),.i .i64 F.length,.i .i64 j]=some [.i .i64 1,.l (aC (su c (F.drop j)))]
 |0,j,c,hj,ho,N,q=>by
  have h:¬((j:Int)<F.length):=by omega
  have O:F.drop j=[]:=cO (by omega);rw[O];simp only[su,List.foldl_nil];refine au rfl rfl ?_;simp[h]
 |m+1,j,c,hj,ho,N,q=>by
  have h:((j:Int)<F.length):=by omega
  obtain⟨t,y,n,s,k,g1,g2,g3,g4⟩:=yK (l:=F) (i:=j) (by omega);have hw:=wrap64 (n:=(j:Int)+1) (by omega) (by omega);have u:((j+1:Nat):Int)=(j:Int)+1:=by omega
  rw[g3]at q⊢;have hf:∀g∈c,g.tag≠aH.tag (.mk t y n s k):=λg x e=>by rw[jG,QL]at q;exact q.2.2 g.tag (acL x) _ (by simp) e
  obtain⟨V,v⟩:=Zn (.mk t y n s k) c N hf;have W:(yc (.mk t y n s k) c++F.drop (j+1)).Perm (c++.mk t y n s k::F.drop (j+1)):=((Uo _ c).append_right _).trans (QM.symm);have A:(yc (.mk t y n s k) c).length=c.length+1:=(Uo _ c).length_eq;have z:=abf p F L T U hF m (j+1) (yc (.mk t y n s k) c) (by omega) (by omega) V ((W.map aH.tag).nodup_iff.2 q);rw[u]at z;have d:su c (.mk t y n s k::F.drop (j+1))=su (yc (.mk t y n s k) c) (F.drop (j+1)):=rfl;rw[d];obtain⟨r,f,B⟩:=aiM c (by omega) t y n s k L T U (.l (aC F)) (.i .i64 F.length) (.i .i64 j) c.length 0 (by omega);rw[bK,jQ]at B;simp only[mZ]at f;have ac:=ah0 (.mk t y n s k) c;unfold yc at z⊢;have hl:=jg c;have O:=arR c (nY (.mk t y n s k) c);have e2:=arQ c (nY (.mk t y n s k) c);have e3:(aC c).take c.length=aC c:=lW (by omega);have D:(ig t y n s k).dZ 5=true:=rfl;have X:aC (.mk t y n s k::c.drop (nY (.mk t y n s k) c))=ig t y n s k::aC (c.drop (nY (.mk t y n s k) c)):=by simp only[aC,iE];rfl
  rw[Fp,X]at z;generalize nY (.mk t y n s k) c=P at *;have o1:=TK (c.take P);have o2:=TK (c.drop P);have c5:=arO c;have l1:=jg (c.take P);have l2:=jg (c.drop P);rw[kN]at l1;rw[dH]at l2;have E:GV.g [.i .u64 t,.i .i64 y,.i .u64 n,.s s,.l (aC k)]=ig t y n s k:=rfl;have G:(0:Int)<=P/\(P:Int)<=c.length:=by omega
  have H:((aC c).take P).drop 0=aC (c.take P):=by rw[bK,O]
  have I:((aC c).take c.length).drop P=aC (c.drop P):=by rw[e3,e2]
  have q1:(aC (c.take P)).length<=10000000:=by omega
  have q2:(aC (c.drop P)).length<=10000000:=by omega
  clear O e2 e3 l1 l2;generalize aC (c.take P)=o at *;generalize aC (c.drop P)=Q at *;have ap:o++ig t y n s k::Q=o++[ig t y n s k]++Q:=by simp
  rw[ap]at z;have c1:2*o.length*64<=281474976710656/\o.length<=281474976710656:=by omega
  have c2:2*(o.length+1)*64<=281474976710656/\o.length+1<=281474976710656:=by omega
  have c3:2*(o.length+1+Q.length)*64<=281474976710656/\o.length+1+Q.length<=281474976710656:=by omega
  rcases B with⟨g,x,rfl⟩|⟨hP,rfl⟩
  ·have w:(P:Int)<c.length:=by have:=(fB.1 x).1;omega
   have J:=v g x;obtain⟨S,Y,Z,s1,k1⟩:=g;have aa:(aC c)[P]? =some (ig S Y Z s1 k1):=by rw[rW,iw,x];simp only[gB,iE];rfl
   have ab:¬(S=t):=J;have M:iE (.mk S Y Z s1 k1)=ig S Y Z s1 k1:=by simp only[iE];rfl
   rw[M]at f;clear v q W V N A d x J M;refine au rfl rfl ?_;simp[-List.all_eq_true,-List.append_assoc,aH.tag,h,g2,f,hl,w,aa,ab,E,D,hw,c5,G,H,I,o1,o2,c1,c2,c3,z]
  ·clear v q W V N A d;have w:¬((P:Int)<c.length):=by omega
   refine au rfl rfl ?_;simp[-List.all_eq_true,-List.append_assoc,h,g2,f,hl,w,E,D,hw,c5,G,H,I,o1,o2,c1,c2,c3,z]
def pW(a b:List aH):List aH:=su [] (a++b)
def ag2{a b:List aH}(c:((a++b).map aH.tag).Nodup):(pW a b).Perm (a++b)/\(pW a b).Pairwise (λx y=>x.tag<y.tag):=Um (a++b) [] List.Pairwise.nil c
def ays(a b:List aH)(m:dO a)(n:dO b)(o:a.length<=1000000)(p:b.length<=1000000)(q:gJ 0 0 a=0)(r:gJ 0 0 b=0)(e:((a++b).map aH.tag).Nodup):TT.lim 200 [.l [.l (aC a),.l (aC b)]]=some [.l (aC (pW a b)),.i .i64 0]:=by
 have j:=Vs (cZ a+1) a (by omega) m o 0 (by omega);have k:=Vs (cZ b+1) b (by omega) n p 0 (by omega);rw[q]at j;rw[r]at k;simp only[mZ]at j k;have c:(([]++a).map aH.tag).Nodup:=by rw[jG,QL]at e;exact e.1
 obtain⟨f,s⟩:=Um a [] List.Pairwise.nil c;rw[aW]at f;have d:((su [] a++b).map aH.tag).Nodup:=(((f.append_right b).map aH.tag).nodup_iff).2 e;have l:(su [] a).length=a.length:=f.length_eq;have g:=abf a a (.l [.l (aC a),.l (aC b)]) (.i .i64 2) (.i .i64 0) o a.length 0 [] (by omega) (by simp;omega) List.Pairwise.nil c;have h:=abf a b (.l [.l (aC a),.l (aC b)]) (.i .i64 2) (.i .i64 1) p b.length 0 (su [] a) (by omega) (by omega) s d;have t:su (su [] a) b=pW a b:=by unfold pW su;rw[List.foldl_append]
 rw[bK]at g h;rw[t]at h;simp only[mZ]at g h;have fn:aC []=[]:=by simp only[aC]
 rw[fn]at g;have v:=jg a;have w:=jg b;have u:IntKind.i64.wrap 1=1:=by decide
 have w1:IntKind.i64.wrap 2=2:=by decide
 clear e c d f s l t q r m n;generalize aC (su [] a)=o1 at *;generalize aC (pW a b)=i at *;generalize aC a=A at *;generalize aC b=B at *;have x:TT.lim 201 [.l [.l A,.l B],.i .i64 2,.i .i64 2]=some [.i .i64 1]:=by refine au rfl rfl ?_;simp
 have y:TT.lim 201 [.l [.l A,.l B],.i .i64 2,.i .i64 1]=some [.i .i64 1]:=by refine au rfl rfl ?_;simp[k,w1,x]
 have z:TT.lim 201 [.l [.l A,.l B],.i .i64 2,.i .i64 0]=some [.i .i64 1]:=by refine au rfl rfl ?_;simp[j,u,y]
 have D:TT.lim 202 [.l i,.l [.l A,.l B],.i .i64 2,.i .i64 2]=some [.i .i64 1,.l i]:=by refine au rfl rfl ?_;simp
 have E:TT.lim 202 [.l o1,.l [.l A,.l B],.i .i64 2,.i .i64 1]=some [.i .i64 1,.l i]:=by refine au rfl rfl ?_;simp[w,h,w1,D]
 have F:TT.lim 202 [.l [],.l [.l A,.l B],.i .i64 2,.i .i64 0]=some [.i .i64 1,.l i]:=by refine au rfl rfl ?_;simp[v,g,u,E]
 refine aG rfl rfl ?_ rfl;simp[z,F]
def ajK:∀(N:Nat)(l:List aH),cZ l<N->dO l->vH l->l.length<=1000000->wL l<=1000000000000->TT.lim 205 [.l (aC l)]=some [.s (bW l)]
 |0,l,h,_,_,_,_=>by omega
 |N+1,l,hN,v,w,J,O=>by
  have x:=jg l;have loop:∀m i,i+m=l.length->∀b:Q0,b.length+wL (l.drop i)<=1000000000000->TT.lim 206 [.s b,.l (aC l),.i .i64 l.length,.i .i64 i]=some [.i .i64 0,.s (b++bW (l.drop i))]:=by
   intro m;induction m with
   |zero=>
    intro i hi b c;have P:l.drop i=[]:=cO (by omega);have h:¬((i:Int)<l.length):=by omega
    rw[P];simp only[bW,ng];refine au rfl rfl ?_;simp[h]
   |succ m Q=>
    intro i hi b c;obtain⟨t,y,n,s,k,g1,g2,S,z⟩:=yK (l:=l) (i:=i) (by omega);have r:=zK v _ z;have B:=Wh w _ z;simp only[qF]at r;obtain⟨t1,t2,y1,y2,T,L⟩:=YE B;have U:=MV z;simp only[qZ]at U;rw[S]at c⊢;simp only[wL,wF]at c;have V:=ajK N k (by omega) r.2 L r.1.2.2.2.2.2.2.2 (by omega);have W:=IJ (cZ k+1) k (by omega) r.2 L (by omega);have u:=yT (4*t+y).toNat (by omega);have M:=yT n.toNat (by omega);have X:=yT s.length (by omega);have Y:=yT (bW k).length (by omega);have z1:=jk (n:=(4*t+y).toNat) (by omega);have z2:=jk (n:=n.toNat) (by omega);have z3:=jk (n:=s.length) (by omega);have z4:=jk (n:=(bW k).length) (by omega);rw[show(((4*t+y).toNat:Nat):Int)=4*t+y by omega]at u;rw[show((n.toNat:Nat):Int)=n by omega]at M;have g:((i+1:Nat):Int)=(i:Int)+1:=by omega
    have j:=wrap64 (n:=(i:Int)+1) (by omega) (by omega);have h:((i:Int)<l.length):=by omega
    have d:=λa Z=>Q (i+1) (by omega) a Z;simp only[g]at d;have D:=dn (n:=4*t) (by omega) (by omega);have E:=dn (n:=y) (by omega) (by omega);have F:=dn (n:=4*t+y) (by omega) (by omega);have u3:=dn (n:=(s.length:Int)) (by omega) (by omega);have u4:=dn (n:=((bW k).length:Int)) (by omega) (by omega);have aa:y≠1->y=2->s=[]:=λh1 h2=>by
     simp only[JH]at B;rcases B.2.1 with h|h|h
     ·omega
     ·omega
     ·exact h.2.2
    simp only[bW,OZ];rcases T with e|e|e
    ·rw[aj e];have f:=d (b++aV (4*t+y).toNat++aV n.toNat) (by simp only[eX];omega);rw[show b++aV (4*t+y).toNat++aV n.toNat++bW (l.drop (i+1))=b++(aV (4*t+y).toNat++aV n.toNat++bW (l.drop (i+1))) by simp]at f;generalize aV (4*t+y).toNat=A at *;generalize aV n.toNat=C at *;have o:(b.length:Int)+A.length<=9223372036854775807:=by omega
     have p:(b.length:Int)+A.length+C.length<=9223372036854775807:=by omega
     have q:(y=0)=True:=eq_true e;clear e;refine au rfl rfl ?_;simp[-List.append_assoc,h,g2,q,D,E,F,u,M,j,f,o,p]
    ·rw[ah (by omega),aj e];have f:=d (b++aV (4*t+y).toNat++aV s.length++s) (by simp only[eX];omega);rw[show b++aV (4*t+y).toNat++aV s.length++s++bW (l.drop (i+1))=b++(aV (4*t+y).toNat++(aV s.length++s)++bW (l.drop (i+1))) by simp]at f;generalize aV (4*t+y).toNat=A at *;generalize aV s.length=C at *;have o:(b.length:Int)+A.length<=9223372036854775807:=by omega
     have p:(b.length:Int)+A.length+C.length<=9223372036854775807:=by omega
     have G:(b.length:Int)+A.length+C.length+s.length<=9223372036854775807:=by omega
     have q:(y=0)=False:=eq_false (by omega);have H:(y=2)=False:=eq_false (by omega);clear e;refine au rfl rfl ?_;simp[-List.append_assoc,h,g2,q,H,D,E,F,u,X,u3,j,f,o,p,G]
    ·rw[ah (by omega),ah (by omega)];have f:=d (b++aV (4*t+y).toNat++aV (bW k).length++bW k) (by simp only[eX];omega);rw[show b++aV (4*t+y).toNat++aV (bW k).length++bW k++bW (l.drop (i+1))=b++(aV (4*t+y).toNat++(aV (bW k).length++bW k)++bW (l.drop (i+1))) by simp]at f;generalize aV (4*t+y).toNat=A at *;generalize aV (bW k).length=C at *;generalize bW k=K at *;have o:(b.length:Int)+A.length<=9223372036854775807:=by omega
     have p:(b.length:Int)+A.length+C.length<=9223372036854775807:=by omega
     have G:(b.length:Int)+A.length+C.length+K.length<=9223372036854775807:=by omega
     have q:(y=0)=False:=eq_false (by omega);have H:(y=2)=True:=eq_true e;clear e;refine au rfl rfl ?_;simp[-List.append_assoc,h,g2,q,H,D,E,F,u,V,Y,u4,j,f,o,p,G]
  have I:=loop l.length 0 (by omega) [] (by rw[bK];simpa using O);rw[bK,aW]at I;simp only[mZ]at I;clear loop;refine aG rfl rfl ?_ rfl;simp[x,I]
def adG(s:Q0):nD (dw s)=some s:=by
 induction s with
 |nil=>rfl
 |cons a s c=>
  have d:(0:Int)<=a.toNat/\((a.toNat:Nat):Int)<256:=by have:=a.toNat_lt;omega
  show(if _ then _ else _)=_
  rw[aj d];have e:(s.map λb=>GV.i .u8 b.toNat)=dw s:=rfl;rw[e,c];simp
def aC3(l:List aH)(a:dO l)(b:l.length<=1000000)(d:wL l<=1000000000000)(f:gJ 0 0 l=0):TT.lim 101 [.l (aC l)]=some (if 65536<(bW l).length then[.s [],.i .i64 4]else[.s (bW l),.i .i64 0]):=by
 have e:=SK (cZ l+1) l (by omega) a 0 0 f (by omega);have g:=TA l a b;rw[f]at g;have j:=abx (cZ l+1) l (by omega) a e b d;have k:=akl (cZ l+1) l (by omega) a e b [] (by simpa using d);have m:dw []=[]:=rfl;rw[m,aW]at k;have h:=IJ (cZ l+1) l (by omega) a e d;by_cases c:65536<(bW l).length
 ·have i:(65536:Int)<(bW l).length:=by omega
  rw[aj c];refine aG rfl rfl ?_ rfl;simp[g,j,c,i]
 ·have i:¬(65536:Int)<(bW l).length:=by omega
  have n:=adG (bW l);have o:(dw (bW l)).length=(bW l).length:=by simp[dw]
  have p:(dw (bW l)).length<=281474976710656:=by omega
  have q:(0:Int)<=(bW l).length/\((bW l).length:Int)<=281474976710656/\((bW l).length:Int)<=1152921504606846976:=by omega
  rw[ah c];clear a d f e h;generalize bW l=F at *;generalize aC l=G at *;generalize dw F=r at *;refine aG rfl rfl ?_ rfl;simp[g,j,k,c,i,n,p,q,GV.dZ]
def ajE(f:aH):JD (iE f)=f.tag:=by cases f;simp only[iE,aH.tag];rfl
def arP(l:List aH):(aC l).all isTagged=true:=by rw[rW,List.all_eq_true];intro g a;obtain⟨f,_,rfl⟩:=nR.1 a;cases f;simp only[iE];rfl
def aB1{a b:List aH}(h:a.Perm b):cZ a=cZ b:=by
 induction h with
 |nil=>rfl
 |cons x _ c=>simp only[cZ,c]
 |swap x y l=>simp only[cZ];omega
 |trans _ _ d e=>rw[d,e]
def aC1{a b:List aH}(h:a.Perm b):wL a=wL b:=by
 induction h with
 |nil=>rfl
 |cons x _ c=>simp only[wL,c]
 |swap x y l=>simp only[wL];omega
 |trans _ _ d e=>rw[d,e]
def ajD:∀a b:List aH,cZ (a++b)=cZ a+cZ b
 |[],b=>by simp[cZ]
 |f::a,b=>by simp only[bJ,cZ,ajD a b];omega
def akh:∀a b:List aH,wL (a++b)=wL a+wL b
 |[],b=>by simp[wL]
 |f::a,b=>by simp only[bJ,wL,akh a b];omega
def TL:∀{l:List aH},(∀f∈l,qF f)->dO l
 |[],_=>by simp only[dO]
 |f::l,h=>by simp only[dO];exact⟨h f (by simp),TL λg a=>h g (by simp[a])⟩
def arT{a b:List aH}(h:a.Perm b)(c:dO b):dO a:=TL λf d=>zK c f (h.mem_iff.1 d)
def arS{a b:List aH}(c:dO a)(d:dO b):dO (a++b):=TL λf e=>(iW.1 e).elim (zK c f) (zK d f)
def aBx(l:List aH)(m:(l.map aH.tag).Nodup):vC (aC l)=aC (su [] l):=by
 have k:=abz (aC l);have n:=aBw (aC l);rw[rW]at k;obtain⟨p,d,c⟩:=awG k l rfl;rw[<-rW]at c;have f:=Um l [] List.Pairwise.nil m;rw[aW]at f;have g:p.Pairwise (λa b=>a.tag<=b.tag):=by rw[W9];intro i j hi o h;have:=n i j (iE p[i]) (iE p[j]) h (by rw[c,iw,bP hi];rfl) (by rw[c,iw,bP o];rfl);rwa [ajE,ajE]at this
 have e:=ajn p (su [] l) (d.trans f.1.symm) g f.2;rw[c,e,rW]
def ahY(l:List aH)(D:l.length<=10000000)(v:l.Pairwise (λa b=>a.tag<b.tag)):∀m i:Nat,i+1+m=l.length->TT.lim 99 [.l (aC l),.i .i64 ((i:Int)+1)]=some [.i .i64 1]
 |0,i,hi=>by
  have h:¬((i:Int)+1<l.length):=by omega
  have j:=jg l;refine au rfl rfl ?_;simp[j,h]
 |m+1,i,hi=>by
  have h:((i:Int)+1<l.length):=by omega
  have j:=jg l;have w:=ahY l D v m (i+1) (by omega);obtain⟨t,y,n,s,k,g1,g2,N,O⟩:=yK (l:=l) (i:=i) (by omega);obtain⟨g,x,z,A,B,o,d,E,F⟩:=yK (l:=l) (i:=i+1) (by omega);have G:t<g:=by
   have:=W9.1 v i (i+1) (by omega) (by omega) (by omega);have H:l[i]=.mk t y n s k:=by have:=bP (l:=l) (i:=i) (by omega);rw[g1]at this;injection this with this;exact this.symm
   have I:l[i+1]=.mk g x z A B:=by have:=bP (l:=l) (i:=i+1) (by omega);rw[o]at this;injection this with this;exact this.symm
   rw[H,I]at this;exact this
  have p:¬g=t:=by omega
  have c:((i+1:Nat):Int)=(i:Int)+1:=by omega
  rw[c]at w;have J:=wrap64 (n:=(i:Int)+1+1) (by omega) (by omega);have e:=wrap64 (n:=(i:Int)+1-1) (by omega) (by omega);have f:(i:Int)+1-1=i:=by omega
  rw[f]at e;have q:(0:Int)<=(i:Int)+1:=by omega
  have L:((i:Int)+1).toNat=i+1:=by omega
  have r:i<l.length:=by omega
  have M:∀h:i<(aC l).length,(aC l)[i]=ig t y n s k:=λh=>by have:=bP h;rw[g2]at this;injection this with this;exact this.symm
  have u:∀h:i+1<(aC l).length,(aC l)[i+1]=ig g x z A B:=λh=>by have:=bP h;rw[d]at this;injection this with this;exact this.symm
  refine au rfl rfl ?_;simp[M,u,j,h,g2,d,p,J,e,f,q,L,r,w]
def axd(a b:List aH)(l:dO a)(m:dO b)(w:a.length<=1000000)(x:b.length<=1000000)(n:cZ a+cZ b<=1000000)(o:gJ 0 0 a=0)(p:gJ 0 0 b=0)(g:((a++b).map aH.tag).Nodup):TT.lim 97 [.l [.l (aC a),.l (aC b)]]=some [.l (aC (pW a b)),.i .i64 0]:=by
 have q:=TA a l w;have r:=TA b m x;rw[o]at q;rw[p]at r;have c:=Fp a b;have s:=jg a;have t:=jg b;have o1:=TK a;have y:=TK b;have h:TT.lim 0 [.l (aC a++aC b)]=some [.l (aC (pW a b))]:=by
  refine Jr (Ds:=Ds) (f:=Ql) rfl ?_;have i:(aC a++aC b).length<=281474976710656/\(aC a++aC b).all isTagged=true:=by rw[<-c];exact⟨by rw[jg,eX];omega,arP _⟩
  show(if(aC a++aC b).length<=281474976710656/\(aC a++aC b).all isTagged=true then some [GV.l (vC (aC a++aC b))]else none)=_
  rw[aj i,<-c,aBx _ g];rfl
 obtain⟨j,u⟩:=ag2 g;have d:(pW a b).length=a.length+b.length:=by rw[j.length_eq,eX]
 have e:(aC (pW a b)).length=(aC a++aC b).length:=by rw[jg,d,eX,s,t]
 have k:=TB (pW a b) (by rw[aB1 j,ajD];exact n);have i:TT.lim 99 [.l (aC (pW a b)),.i .i64 1]=some [.i .i64 1]:=by
  rcases Xc (pW a b).length with v|v
  ·have:pW a b=[]:=jl v;rw[this];have fn:aC []=[]:=by simp only[aC]
   rw[fn];refine au rfl rfl ?_;simp
  ·have:=ahY (pW a b) (by omega) u ((pW a b).length-1) 0 (by omega);simpa using this
 have z:IntKind.i64.wrap 1=1:=by decide
 have w1:IntKind.i64.wrap 2=2:=by decide
 have D:2*(aC a).length*64<=281474976710656/\(aC a).length<=281474976710656:=by omega
 have E:2*((aC a).length+(aC b).length)*64<=281474976710656/\(aC a).length+(aC b).length<=281474976710656:=by omega
 clear g j u d o p l m n c s t;generalize aC (pW a b)=M at *;generalize aC a=A at *;generalize aC b=B at *;have F:TT.lim 98 [.l (A++B),.l [.l A,.l B],.i .i64 2,.i .i64 2]=some [.i .i64 1,.l (A++B)]:=by refine au rfl rfl ?_;simp
 have G:TT.lim 98 [.l A,.l [.l A,.l B],.i .i64 2,.i .i64 1]=some [.i .i64 1,.l (A++B)]:=by refine au rfl rfl ?_;simp[-List.all_eq_true,r,w1,y,E,F]
 have H:TT.lim 98 [.l [],.l [.l A,.l B],.i .i64 2,.i .i64 0]=some [.i .i64 1,.l (A++B)]:=by refine au rfl rfl ?_;simp[-List.all_eq_true,q,z,o1,D,G]
 rw[eX]at e;refine aG rfl rfl ?_ rfl;simp[H,h,e,i,k]
def yM(b:aN)(s:dh):Option aH:=match placeOf s.name with
 |some p=>if(aX b p).1=0/\(aX b p).2=[]then none else some (.mk s.tag (bQ p) (aX b p).1 (aX b p).2 [])
 |none=>none
def mP(b:aN)(l:List dh):List aH:=l.filterMap (yM b)
def Px(b:aN)(s:dh)(l:List dh):mP b (s::l)=(match yM b s with|some f=>[f]|none=>[])++mP b l:=by unfold mP;rw[List.filterMap_cons];cases yM b s<;>rfl
def aCH{b:aN}{c:List aH}(h:qw b c){s:dh}(d:placeOf s.name≠none/\s.use=vI s.name):∃p,placeOf s.name=some p/\TT.lim 91 [dU b (aC c),.s s.name]=some [.g [.i .u64 0,.i .i64 (bQ p),.i .u64 (aX b p).1,.s (aX b p).2,.l []],.b true]/\TT.lim 180 [dU b (aC c),.s s.name]=some [.i .u64 (aX b p).1,.s (aX b p).2]/\s.use.tdiv 3=bQ p/\0<=s.use/\s.use<=5:=by
 rcases aCG b (aC c) h.body h.d h.t.few s.name with⟨p,e,a,i,j⟩|⟨e,a⟩
 ·obtain⟨g1,g2,f⟩:=aj3 p;rw[<-j,<-d.2]at g1 g2 f;exact⟨p,e,a,i,g2,g1,f⟩
 ·cases g:placeOf s.name with
  |none=>exact absurd g d.1
  |some p=>unfold vI at a;rw[g]at a;have:=(aj3 p).1;simp only at a;omega
def aht{b:aN}{v:List aH}(F:qw b v)(c:List dh)(I:c.length<=1000)(o:∀s∈c,placeOf s.name≠none/\s.use=vI s.name):∀(m i:Nat)(a:List aH),i+m=c.length->a.length+m<=2000->
 TT.lim 90 ([.l (aC a),.l (c.map bI),.i .i64 c.length,.i .i64 i]++(dU b (aC v)).cells)=some [.i .i64 0,.l (aC (a++mP b (c.drop i)))]
 |0,i,a,hi,J=>by
  have h:¬((i:Int)<c.length):=by omega
  have e:c.drop i=[]:=cO (by omega);rw[e];have:mP b []=[]:=rfl;rw[this,ng,dK];simp only[bJ,aW];refine au rfl rfl ?_;simp[h]
 |m+1,i,a,hi,J=>by
  have g:i<c.length:=by omega
  have h:((i:Int)<c.length):=by omega
  obtain⟨p,y⟩:∃p,placeOf c[i].name=some p:=by
   cases e:placeOf c[i].name with
   |some p=>exact⟨p,rfl⟩
   |none=>exact absurd e (o _ (dW g)).1
  have w:=avM F y;have q:c.drop i=c[i]::c.drop (i+1):=dF g;have j:(c.map bI)[i]? =some (bI c[i]):=by rw[iw,bP g];rfl
  have d:((i+1:Nat):Int)=(i:Int)+1:=by omega
  have z:=wrap64 (n:=(i:Int)+1) (by omega) (by omega);rw[q,Px];have G:yM b c[i]=if(aX b p).1=0/\(aX b p).2=[]then none else some (.mk c[i].tag (bQ p) (aX b p).1 (aX b p).2 []):=by unfold yM;rw[y]
  rw[G];have f:=aht F c I o m (i+1);generalize c[i]=s at *;clear G q y;have H:=jg a;have fn:aC []=[]:=by simp only[aC]
  have k:(ig s.tag (bQ p) (aX b p).1 (aX b p).2 []).dZ 5=true:=rfl;have l:GV.g [.i .u64 s.tag,.i .i64 (bQ p),.i .u64 (aX b p).1,.s (aX b p).2,.l []]=ig s.tag (bQ p) (aX b p).1 (aX b p).2 []:=by unfold ig;rw[fn]
  have B:2*((aC a).length+1)*64<=281474976710656/\(aC a).length+1<=281474976710656:=by omega
  by_cases x:(aX b p).1=0/\(aX b p).2=[]
  ·rw[aj x];have f:=f a (by omega) (by omega);rw[dK,d]at f;rw[dK];simp only[bJ,aW]at f⊢;clear k l B H;obtain⟨L,M⟩:=x;rw[L,M]at w;generalize aC a=A at *;generalize aC v=r at *;generalize c.map bI=N at *;generalize bQ p=O at *;refine au rfl rfl ?_;simp[h,j,eF,w,z,f]
  ·rw[ah x];have f:=f (a++[.mk s.tag (bQ p) (aX b p).1 (aX b p).2 []]) (by omega) (by rw[eX,uI];omega);have u:aC (a++[.mk s.tag (bQ p) (aX b p).1 (aX b p).2 []])=aC a++[ig s.tag (bQ p) (aX b p).1 (aX b p).2 []]:=by rw[Fp];simp only[aC,iE];rfl
   rw[dK,d,u,List.append_assoc]at f;rw[dK];simp only[bJ,aW]at f⊢;generalize P:aC (a++.mk s.tag (bQ p) (aX b p).1 (aX b p).2 []::mP b (c.drop (i+1)))=R at *;clear P u H;generalize ig s.tag (bQ p) (aX b p).1 (aX b p).2 []=E at *;generalize aC a=A at *;generalize aC v=r at *;generalize c.map bI=N at *;generalize bQ p=O at *;generalize aX b p=Q at *;obtain⟨n,t⟩:=Q;simp only at *;by_cases D:n=0
   ·have S:¬t=[]:=λe=>x ⟨D,e⟩;subst D;refine au rfl rfl ?_;simp[h,j,eF,w,S,l,k,B,z,f]
   ·refine au rfl rfl ?_;simp[h,j,eF,w,D,l,k,B,z,f]
def aiD{b:aN}{w:List aH}(G:qw b w)(c:List dh)(M:c.length<=1000)(q:∀s∈c,placeOf s.name≠none/\s.use=vI s.name):∀(m i:Nat)(a:List aH),i+m=c.length->a.length+m<=2000->
 TT.lim 199 ([.l (aC a),.l (c.map bI),.i .i64 c.length,.i .i64 i]++(dU b (aC w)).cells)=some [.i .i64 0,.l (aC (a++mP b (c.drop i)))]
 |0,i,a,hi,N=>by
  have h:¬((i:Int)<c.length):=by omega
  have e:c.drop i=[]:=cO (by omega);rw[e];have:mP b []=[]:=rfl;rw[this,ng,dK];simp only[bJ,aW];refine au rfl rfl ?_;simp[h]
 |m+1,i,a,hi,N=>by
  have j:i<c.length:=by omega
  have h:((i:Int)<c.length):=by omega
  obtain⟨p,H,-,x,I,V,W⟩:=aCH G (q _ (dW j));have u:c.drop i=c[i]::c.drop (i+1):=dF j;have k:(c.map bI)[i]? =some (bI c[i]):=by rw[iw,bP j];rfl
  have d:((i+1:Nat):Int)=(i:Int)+1:=by omega
  have z:=wrap64 (n:=(i:Int)+1) (by omega) (by omega);rw[u,Px];have J:yM b c[i]=if(aX b p).1=0/\(aX b p).2=[]then none else some (.mk c[i].tag (bQ p) (aX b p).1 (aX b p).2 []):=by unfold yM;rw[H]
  rw[J];have f:=aiD G c M q m (i+1);generalize c[i]=s at *;clear J u H;have B:0<=bQ p/\bQ p<=1:=by cases p<;>simp[bQ]
  have l:=wrap64 (n:=bQ p) (by omega) (by omega);have L:=jg a;have fn:aC []=[]:=by simp only[aC]
  have o:(ig s.tag (bQ p) (aX b p).1 (aX b p).2 []).dZ 5=true:=rfl;have g:GV.g [.i .u64 s.tag,.i .i64 (bQ p),.i .u64 (aX b p).1,.s (aX b p).2,.l []]=ig s.tag (bQ p) (aX b p).1 (aX b p).2 []:=by unfold ig;rw[fn]
  have D:2*((aC a).length+1)*64<=281474976710656/\(aC a).length+1<=281474976710656:=by omega
  by_cases y:(aX b p).1=0/\(aX b p).2=[]
  ·rw[aj y];have f:=f a (by omega) (by omega);rw[dK,d]at f;rw[dK];simp only[bJ,aW]at f⊢;clear o g D L;obtain⟨O,P⟩:=y;rw[O,P]at x;generalize aC a=A at *;generalize aC w=r at *;generalize c.map bI=Q at *;generalize bQ p=X at *;refine au rfl rfl ?_;simp[h,k,eF,x,z,f]
  ·rw[ah y];have f:=f (a++[.mk s.tag (bQ p) (aX b p).1 (aX b p).2 []]) (by omega) (by rw[eX,uI];omega);have v:aC (a++[.mk s.tag (bQ p) (aX b p).1 (aX b p).2 []])=aC a++[ig s.tag (bQ p) (aX b p).1 (aX b p).2 []]:=by rw[Fp];simp only[aC,iE];rfl
   rw[dK,d,v,List.append_assoc]at f;rw[dK];simp only[bJ,aW]at f⊢;generalize S:aC (a++.mk s.tag (bQ p) (aX b p).1 (aX b p).2 []::mP b (c.drop (i+1)))=R at *;clear S v L;generalize ig s.tag (bQ p) (aX b p).1 (aX b p).2 []=E at *;generalize aC a=A at *;generalize aC w=r at *;generalize c.map bI=Q at *;rw[<-I]at l g;clear I B;generalize aX b p=T at *;obtain⟨n,t⟩:=T;simp only at *;by_cases F:n=0
   ·have U:¬t=[]:=λe=>y ⟨F,e⟩;subst F;refine au rfl rfl ?_;simp[h,k,eF,x,U,l,g,o,D,z,f]
   ·refine au rfl rfl ?_;simp[h,k,eF,x,F,l,g,o,D,z,f]
def SI:∀(l:List aH)(w:Nat)(a:Int),gJ w a l=0->(∀f∈l,f.tag≠0/\f.tag<=4294967296/\yI w f=0/\a<f.tag)/\l.Pairwise (λx y=>x.tag<y.tag)
 |[],w,a,_=>⟨by simp,List.Pairwise.nil⟩
 |f::l,w,a,h=>by
  unfold gJ at h;by_cases h1:f.tag=0
  ·rw[aj h1]at h;exact absurd h (by decide)
  rw[ah h1]at h;by_cases d:4294967296<f.tag
  ·rw[aj d]at h;exact absurd h (by decide)
  rw[ah d]at h;by_cases i:f.tag<=a
  ·rw[aj i]at h;exact absurd h (by decide)
  rw[ah i]at h;by_cases c:yI w f=0;rotate_left
  ·rw[aj c]at h;exact absurd h c
  rw[ah (λe=>e c)]at h;obtain⟨j,k⟩:=SI l w f.tag h;refine⟨λg b=>?_,iK.2 ⟨λg b=>(j g b).2.2.2,k⟩⟩;rcases bD.1 b with rfl|b
  ·exact⟨h1,by omega,c,by omega⟩
  ·obtain⟨m,n,o,p⟩:=j g b;exact⟨m,n,o,by omega⟩
def X6:∀(l:List aH)(w:Nat)(a:Int),(∀f∈l,f.tag≠0/\f.tag<=4294967296/\yI w f=0/\a<f.tag)->l.Pairwise (λx y=>x.tag<y.tag)->gJ w a l=0
 |[],w,a,_,_=>by unfold gJ;rfl
 |f::l,w,a,h,b=>by obtain⟨q1,i,d,j⟩:=h f (by simp);rw[iK]at b;unfold gJ;rw[ah q1,ah (by omega),ah (by omega),ah (λe=>e d)];refine X6 l w f.tag (λg c=>?_) b.2;obtain⟨r1,r2,r3,k⟩:=h g (by simp[c]);exact⟨r1,r2,r3,b.1 g c⟩
def aBz(k:Int):(kU k).Pairwise (λs t=>s.tag<t.tag)/\∀s∈kU k,1<=s.tag/\s.tag<=5:=by
 unfold kU;repeat' split
 all_goals first|(unfold sp1;decide)|(unfold sp2;decide)|(unfold Ag;decide)|(unfold Ah;decide)|(unfold Ai;decide)|(unfold Aj;decide)|(unfold Ak;decide)|(unfold Am;decide)|exact⟨List.Pairwise.nil,λs a=>by cases a⟩
def Pv(k v:Int):(aS k v).Pairwise (λs t=>s.tag<t.tag)/\∀s∈aS k v,1<=s.tag/\s.tag<=5:=by obtain⟨a,b⟩:=aBz k;exact⟨a.sublist List.filter_sublist,λs c=>b s (ED.1 c).1⟩
def Uy{b:aN}{s:dh}{f:aH}(h:yM b s=some f):∃p,placeOf s.name=some p/\f=.mk s.tag (bQ p) (aX b p).1 (aX b p).2 []/\¬((aX b p).1=0/\(aX b p).2=[]):=by
 unfold yM at h;cases c:placeOf s.name with
 |none=>rw[c]at h;cases h
 |some p=>
  rw[c]at h;simp only at h;by_cases a:(aX b p).1=0/\(aX b p).2=[]
  ·rw[aj a]at h;cases h
  ·rw[ah a]at h;injection h with h
   exact⟨p,rfl,h.symm,a⟩
def UD{b:aN}{l:List dh}{f:aH}(h:f∈mP b l):∃s∈l,∃p,placeOf s.name=some p/\f=.mk s.tag (bQ p) (aX b p).1 (aX b p).2 []/\¬((aX b p).1=0/\(aX b p).2=[]):=by unfold mP at h;obtain⟨s,a,c⟩:=List.mem_filterMap.1 h;exact⟨s,a,Uy c⟩
def ZA(b:aN):∀(l:List dh),l.Pairwise (λs t=>s.tag<t.tag)->(mP b l).Pairwise (λx y=>x.tag<y.tag)
 |[],_=>List.Pairwise.nil
 |s::l,h=>by
  rw[iK]at h;rw[Px];have c:=ZA b l h.2;cases d:yM b s with
  |none=>exact c
  |some f=>obtain⟨p,-,rfl,-⟩:=Uy d;refine iK.2 ⟨λg e=>?_,c⟩;obtain⟨i,a,j,-,rfl,-⟩:=UD e;exact h.1 i a
def aCF(b:aN)(p:Pl):(bQ p=0/\(aX b p).2=[])\/(bQ p=1/\(aX b p).1=0):=by cases p<;>simp[bQ,aX]
def ZB(b:aN)(k v:Int):gJ 0 0 (mP b (aS k v))=0:=by
 obtain⟨d,e⟩:=Pv k v;refine X6 _ 0 0 (λf g=>?_) (ZA b _ d);obtain⟨s,h,p,-,rfl,-⟩:=UD g;have:=e s h;refine⟨by show s.tag≠0;omega,by show s.tag<=_;omega,?_,by show 0<s.tag;omega⟩;unfold yI;rcases aCF b p with⟨a,c⟩|⟨a,c⟩
 ·rw[a,c];simp
 ·rw[a,c];simp
def Short(b:aN):Prop:=b.name.length<=600/\b.region.length<=600/\b.note.length<=600
def aj8{b:aN}{a:List aH}(h:qw b a)(c:Short b)(p:Pl):(0<=(aX b p).1/\(aX b p).1<18446744073709551616)/\(aX b p).2.length<=100000000:=by
 have q:=h.body;obtain⟨w1,e,f⟩:=c;cases p with
 |rem=>have g:=q.remaining;exact⟨by simp only[aX];unfold zz;split<;>omega,by simp[aX]⟩
 |allow=>refine⟨?_,by simp[aX]⟩;simp only[aX];split<;>omega
 |name=>exact⟨by simp[aX],by simp only[aX];omega⟩
 |region=>exact⟨by simp[aX],by simp only[aX];omega⟩
 |note=>exact⟨by simp[aX],by simp only[aX];omega⟩
 |d=>
  refine⟨by simp[aX],?_⟩;simp only[aX];have:=DL h.d;split
  ·simp
  ·omega
 |t=>
  refine⟨by simp[aX],?_⟩;simp only[aX];have:=awC b.t h.t;split
  ·simp
  ·unfold Gq;split
   ·simp
   ·simp only;omega
 |num k=>refine⟨?_,by simp[aX]⟩;simp only[aX];unfold DW;split<;>first|exact q.id|exact q.min|exact q.max|exact q.chosen|exact q.flags|exact q.cost|exact q.priority|exact q.deadline|exact q.retry|exact q.epoch|exact q.base|exact q.digest|exact q.lag|exact q.code|exact q.want
def Zz{b:aN}{c:List aH}(h:qw b c)(d:Short b)(k v:Int):dO (mP b (aS k v)):=TL λf e=>by
 obtain⟨s,g,p,-,rfl,-⟩:=UD e;have i:=(Pv k v).2 s g;have a:=aj8 h d p;have j:0<=bQ p/\bQ p<=1:=by cases p<;>simp[bQ]
 simp only[qF,dO];refine⟨⟨?_,?_,?_,?_,a.1.1,a.1.2,a.2,?_⟩,trivial⟩;all_goals first|omega|simp
def Zy(b:aN)(k v:Int):(mP b (aS k v)).length<=8:=jP (List.length_filterMap_le _ _) (yN k v)
def afV(b:aN):∀l:List dh,cZ (mP b l)<=2*l.length
 |[]=>by simp[mP,cZ]
 |s::l=>by
  rw[Px];have c:=afV b l;cases a:yM b s with
  |none=>simp only[aW,jw];omega
  |some f=>obtain⟨p,-,rfl,-⟩:=Uy a;simp only[bJ,aW,cZ,qZ,jw];omega
def afW{b:aN}{c:List aH}(h:qw b c)(a:Short b):∀l:List dh,wL (mP b l)<=100000040*l.length
 |[]=>by simp[mP,wL]
 |s::l=>by
  rw[Px];have e:=afW h a l;cases d:yM b s with
  |none=>simp only[aW,jw];omega
  |some f=>obtain⟨p,-,rfl,-⟩:=Uy d;have g:=(aj8 h a p).2;simp only[bJ,aW,wL,wF,jw];omega
structure vV(b:aN)(fl:List aH):Prop where
 msg:qw b fl
 short:Short b
 sz:cZ fl<=900000
 w:wL fl<=2000000000
def KJ{b:aN}{a:List aH}{v:Int}(h:fH b a v=0):1<=v/\v<=3/\aS b.kind v≠[]/\gJ 0 0 a=0/\∀f∈a,hasTag (aS b.kind v) f.tag=false:=by
 unfold fH at h;by_cases j:v<1
 ·rw[aj j]at h;exact absurd h (by decide)
 rw[ah j]at h;by_cases k:3<v
 ·rw[aj k]at h;exact absurd h (by decide)
 rw[ah k]at h;by_cases d:aS b.kind v=[]
 ·rw[aj d]at h;exact absurd h (by decide)
 rw[ah d]at h;by_cases l:fZ.all (λn=>oz (aS b.kind v) n ||nJ b n)=false
 ·rw[aj l]at h;exact absurd h (by decide)
 rw[ah l]at h;by_cases g:kR b (aS b.kind v)≠0
 ·rw[aj g]at h;exact absurd h g
 rw[ah g]at h;by_cases i:zy b≠0
 ·rw[aj i]at h;exact absurd h i
 rw[ah i]at h;unfold Gt at h;by_cases c:gJ 0 0 a≠0
 ·rw[aj c]at h;exact absurd h c
 rw[ah c]at h;by_cases m:a.any (λf=>hasTag (aS b.kind v) f.tag)=true
 ·rw[aj m]at h;exact absurd h (by decide)
 refine⟨by omega,by omega,d,by simpa using c,λf o=>?_⟩;cases e:hasTag (aS b.kind v) f.tag with
 |false=>rfl
 |true=>exact absurd (List.any_eq_true.2 ⟨f,o,e⟩) m
def Xw{b:aN}{a:List aH}{v:Int}(h:fH b a v=0):((mP b (aS b.kind v)++a).map aH.tag).Nodup:=by
 obtain⟨-,-,-,d,i⟩:=KJ h;have j:=ZA b _ (Pv b.kind v).1;have k:=(SI a 0 0 d).2;rw[jG,QL];have c:∀l:List aH,l.Pairwise (λx y=>x.tag<y.tag)->(l.map aH.tag).Nodup:=λl m=>by unfold List.Nodup;rw[List.pairwise_map];exact m.imp λh e=>by omega
 refine⟨c _ j,c _ k,λx n y o e=>?_⟩;obtain⟨f,q,rfl⟩:=nR.1 n;obtain⟨g,r,rfl⟩:=nR.1 o;obtain⟨s,t,p,-,rfl,-⟩:=UD q;have:=i g r;unfold hasTag at this;have u:(aS b.kind v).any (λs=>decide (g.tag=s.tag))=true:=List.any_eq_true.2 ⟨s,t,Bh (show g.tag=s.tag from e.symm)⟩;rw[u]at this;cases this
def wo(b:aN)(a:List aH)(v:Int):List aH:=pW (mP b (aS b.kind v)) a
def Fj(b:aN)(a:List aH)(v:Int):List aH×Int:=if fH b a v=0 then(wo b a v,0)else([],fH b a v)
structure akp(l:List aH):Prop where
 ok:dO l
 len:l.length<=1000000
 w:wL l<=1000000000000
 chk:gJ 0 0 l=0
def adb{b:aN}{c:List aH}{v:Int}(a:vV b c)(h:fH b c v=0):akp (wo b c v):=by
 obtain⟨-,-,-,g,k⟩:=KJ h;obtain⟨e,i⟩:=ag2 (Xw h);have m:c.length<=900000:=by
  have:∀l:List aH,l.length<=cZ l:=λl=>by
   induction l with
   |nil=>simp[cZ]
   |cons f l n=>simp only[jw,cZ];omega
  have:=this c;have:=a.sz;omega
 have o:=Zy b b.kind v;have p:=afW a.msg a.short (aS b.kind v);have j:=yN b.kind v;have q:=a.w;refine⟨arT e (arS (Zz a.msg a.short _ _) a.msg.f8),?_,?_,?_⟩
 ·unfold wo;rw[e.length_eq,eX];omega
 ·unfold wo;rw[aC1 e,akh];have:100000040*(aS b.kind v).length<=100000040*8:=NH _ j;omega
 ·refine X6 _ 0 0 (λf d=>?_) i;rcases iW.1 (e.mem_iff.1 d)with d|d
  ·exact(SI _ 0 0 (ZB b b.kind v)).1 f d
  ·exact(SI _ 0 0 g).1 f d
def Zw{k v:Int}(h:aS k v≠[]):1<=k/\k<=8:=by
 by_cases c:1<=k/\k<=8
 ·exact c
 ·exfalso;apply h;unfold aS kU;rw[ah (by omega),ah (by omega),ah (by omega),ah (by omega),ah (by omega),ah (by omega),ah (by omega),ah (by omega)];rfl
def awH{b:aN}{a:List aH}(d:vV b a)(v:Int):TT.lim 45 [dU b (aC a),.i .i64 v]=some [.l (aC (Fj b a v).1),.i .i64 (Fj b a v).2]:=by
 have f:=Z4 b a v d.msg.body d.msg.t.few d.msg.f8 d.msg.len;unfold Fj;by_cases c:fH b a v=0;rotate_left
 ·rw[ah c];have fn:aC []=[]:=by simp only[aC]
  rw[fn];generalize aC a=r at *;generalize fH b a v=p at *;refine aG rfl rfl ?_ rfl;simp[eF,f,c]
 rw[aj c];rw[c]at f;obtain⟨g,h,e,l,-⟩:=KJ c;have m:=UC b.kind v g h (by have:=mt (afX b.kind v g h).2 e;omega)
 have i:=aht d.msg (aS b.kind v) (by have:=yN b.kind v;omega) (ZC b.kind v) (aS b.kind v).length 0 [] (by omega) (by have:=yN b.kind v;simp;omega);have fn:aC []=[]:=by simp only[aC]
 rw[bK,aW,dK,fn]at i;simp only[bJ,aW,mZ]at i;have j:=afV b (aS b.kind v);have n:=yN b.kind v;have o:=axd _ a (Zz d.msg d.short b.kind v) d.msg.f8 (by have:=Zy b b.kind v;omega) d.msg.len (by have:=d.sz;omega) (ZB b b.kind v) l (Xw c);have k:(((aS b.kind v).map bI).length:Int)=((aS b.kind v).length:Int):=by rw[je]
 unfold wo;generalize aC (pW (mP b (aS b.kind v)) a)=M at *;generalize aC (mP b (aS b.kind v))=q at *;generalize(aS b.kind v).map bI=s at *;generalize((aS b.kind v).length:Int)=L at *;generalize aC a=r at *;clear j n e l c d g h;refine aG rfl rfl ?_ rfl;simp[eF,f,m,k,i,o]
def ayl{b:aN}{a:List aH}(d:vV b a)(v:Int):TT.lim 198 [dU b (aC a),.i .i64 v]=some [.l (aC (Fj b a v).1),.i .i64 (Fj b a v).2]:=by
 have e:=Vo b a v d.msg.body d.msg.t.few d.msg.f8 d.msg.len;unfold Fj;by_cases c:fH b a v=0;rotate_left
 ·rw[ah c];have fn:aC []=[]:=by simp only[aC]
  rw[fn];generalize aC a=r at *;generalize fH b a v=n at *;refine aG rfl rfl ?_ rfl;simp[eF,e,c]
 rw[aj c];rw[c]at e;obtain⟨k,i,f,j,-⟩:=KJ c;have l:=abe b.kind v i;have g:=aiD d.msg (aS b.kind v) (by have:=yN b.kind v;omega) (ZC b.kind v) (aS b.kind v).length 0 [] (by omega) (by have:=yN b.kind v;simp;omega);have fn:aC []=[]:=by simp only[aC]
 rw[bK,aW,dK,fn]at g;simp only[bJ,aW,mZ]at g;have m:=ays _ a (Zz d.msg d.short b.kind v) d.msg.f8 (by have:=Zy b b.kind v;omega) d.msg.len (ZB b b.kind v) j (Xw c);have h:(((aS b.kind v).map bI).length:Int)=((aS b.kind v).length:Int):=by rw[je]
 unfold wo;generalize aC (pW (mP b (aS b.kind v)) a)=M at *;generalize aC (mP b (aS b.kind v))=o at *;generalize(aS b.kind v).map bI=p at *;generalize((aS b.kind v).length:Int)=L at *;generalize aC a=r at *;clear f j c d k i;refine aG rfl rfl ?_ rfl;simp[eF,e,l,h,g,m]
def bytesV(b:aN)(a:List aH)(v:Int):Q0:=aV b.kind.toNat++bW (wo b a v)
def wK(b:aN)(a:List aH)(v:Int):Q0×Int:=if fH b a v=0 then(if 65536<(bytesV b a v).length then([],4)else(bytesV b a v,0))else([],fH b a v)
def awF{b:aN}{a:List aH}(i:vV b a)(v:Int):TT.lim 44 [dU b (aC a),.i .i64 v]=some [.s (wK b a v).1,.i .i64 (wK b a v).2]:=by
 have d:=awH i v;unfold Fj at d;unfold wK;by_cases c:fH b a v=0;rotate_left
 ·rw[ah c]at d⊢;generalize aC a=r at *;generalize fH b a v=s at *;refine aG rfl rfl ?_ rfl;simp[eF,d,c]
 rw[aj c]at d⊢;have f:=adb i c;have g:=aC3 (wo b a v) f.ok f.len f.w f.chk;obtain⟨-,-,h,-,-⟩:=KJ c;obtain⟨t,u⟩:=Zw h;have j:=yS b.kind.toNat (by omega);have q:=jk (n:=b.kind.toNat) (by omega);rw[show((b.kind.toNat:Nat):Int)=b.kind by omega]at j;have k:=dn (n:=b.kind) (by omega) (by omega);unfold bytesV;rw[eX];clear f c i h;generalize wo b a v=l at *;generalize aV b.kind.toNat=V at *;generalize aC a=r at *;generalize aC l=G at *;generalize bW l=F at *;by_cases m:65536<F.length
 ·rw[aj m]at g;rw[aj (by omega)];refine aG rfl rfl ?_ rfl;simp[eF,d,g]
 ·rw[ah m]at g;have o:(V.length:Int)+F.length<=9223372036854775807:=by omega
  by_cases p:65536<V.length+F.length
  ·have e:(65536:Int)<V.length+F.length:=by omega
   rw[aj p];refine aG rfl rfl ?_ rfl;simp[eF,d,g,k,j,e,o]
  ·have e:¬(65536:Int)<V.length+F.length:=by omega
   rw[ah p];refine aG rfl rfl ?_ rfl;simp[eF,d,g,k,j,e,o]
def ayi{b:aN}{a:List aH}(e:vV b a)(v:Int):TT.lim 171 [dU b (aC a),.i .i64 v]=some [.s (wK b a v).1,.i .i64 (wK b a v).2]:=by
 have i:=Vo b a v e.msg.body e.msg.t.few e.msg.f8 e.msg.len;have j:=ayl e v;unfold Fj at j;unfold wK;by_cases c:fH b a v=0;rotate_left
 ·rw[ah c]at j⊢;generalize aC a=r at *;generalize fH b a v=x at *;refine aG rfl rfl ?_ rfl;simp[eF,i,c]
 rw[aj c]at j⊢;rw[c]at i;have d:=adb e c;have f:=SK (cZ (wo b a v)+1) _ (by omega) d.ok 0 0 d.chk (by omega);have s:=ajK (cZ (wo b a v)+1) (wo b a v) (by omega) d.ok f d.len d.w;have k:=IJ (cZ (wo b a v)+1) _ (by omega) d.ok f d.w;have l:=d.w;obtain⟨-,-,h,-,-⟩:=KJ c;obtain⟨y,z⟩:=Zw h;have o:=yT b.kind.toNat (by omega);have t:=jk (n:=b.kind.toNat) (by omega);rw[show((b.kind.toNat:Nat):Int)=b.kind by omega]at o;have u:=dn (n:=b.kind) (by omega) (by omega);unfold bytesV;rw[eX];clear d c e h f;generalize wo b a v=m at *;generalize aV b.kind.toNat=V at *;generalize aC a=r at *;generalize aC m=G at *;have w:(V.length:Int)+(bW m).length<=9223372036854775807:=by omega
 generalize bW m=F at *;clear k l;have p:TT.lim 197 [dU b r,.i .i64 v]=some [.s (V++F)]:=by refine aG rfl rfl ?_ rfl;simp[eF,j,s,u,o,w]
 by_cases q:65536<V.length+F.length
 ·have g:(65536:Int)<V.length+F.length:=by omega
  rw[aj q];refine aG rfl rfl ?_ rfl;simp[eF,i,p,g]
 ·have g:¬(65536:Int)<V.length+F.length:=by omega
  rw[ah q];refine aG rfl rfl ?_ rfl;simp[eF,i,p,g]
def aC4(n:Int):IntKind.u8.wrap n=n%256:=by simp[IntKind.wrap,IntKind.signed,IntKind.bits]
def aqI(b:aN)(a:List aH)(v:Int):(wK b a v).1.length<=65536:=by
 unfold wK;split
 ·split
  ·simp
  ·simp only;omega
 ·simp
