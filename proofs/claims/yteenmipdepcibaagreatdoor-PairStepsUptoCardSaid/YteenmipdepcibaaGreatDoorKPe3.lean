/- What the trees compute: plain laws. -/
import Derived.Test.YteenmipdepcibaaGreatDoorKPe2
set_option linter.unusedSimpArgs false
set_option linter.unusedVariables false
namespace Go.Proofs.YteenmipdepcibaaGreatDoor
open Go Go.aN
set_option maxRecDepth 100000
namespace P
abbrev It:=Int×Int×Q0
def bJ(x:It):GV:=.g [.i .u64 x.1,.i .u64 x.2.1,.s x.2.2]
@[simp] theorem asz(x:It):(bJ x).cells=[.i .u64 x.1,.i .u64 x.2.1,.s x.2.2]:=rfl
def jU(a b:It):Bool:=if a.1=b.1 then decide (a.2.1<b.2.1)else decide (a.1<b.1)
def leI(a b:It):Prop:=jU b a=false
theorem Us(a b:It):leI a b↔a.1<b.1\/(a.1=b.1/\a.2.1<=b.2.1):=by
 unfold leI jU;split
 ·next h=>simp;omega
 ·next h=>simp;omega
theorem agh(a:It):leI a a:=(Us a a).2 (.inr ⟨rfl,zM _⟩)
theorem Zp{a b c:It}(h1:leI a b)(h2:leI b c):leI a c:=by rw[Us]at *;omega
theorem O0{a b:It}(h:jU a b=true):leI a b:=by
 rw[Us];unfold jU at h;split at h
 ·next e=>have:=Fv h;omega
 ·next e=>have:=Fv h;omega
theorem asZ{a b:It}(h:leI a b):a.1<=b.1:=by rw[Us]at h;omega
def dI:It:=(0,0,[])
abbrev at_(h:List It)(i:Nat):It:=h.getD i dI
def iH(h:List It)(i j:Nat):List It:=(h.set i (at_ h j)).set j (at_ h i)
theorem DZ(h:List It)(i j:Nat):(iH h i j).length=h.length:=by simp[iH]
theorem Xr(h:List It){i j:Nat}(hi:i<h.length)(hj:j<h.length)(k:Nat):at_ (iH h i j) k=if k=j then at_ h i else if k=i then at_ h j else at_ h k:=by
 unfold iH at_;simp only[xR,List.getElem?_set,F8];by_cases h1:k=j
 ·subst h1;simp[hj]
 ·have h1':¬j=k:=λe=>h1 e.symm;rw[ah h1',ah h1];by_cases h2:k=i
  ·subst h2;simp[hi]
  ·have h2':¬i=k:=λe=>h2 e.symm;rw[ah h2',ah h2]
theorem swap_perm(h:List It){i j:Nat}(hi:i<h.length)(hj:j<h.length):(iH h i j).Perm h:=by have:=Array.swap_perm (xs:=h.toArray) (i:=i) (j:=j) (by simpa using hi) (by simpa using hj);have h2:=this.toList;simp only[Array.toList_swap]at h2;unfold iH at_;simpa[xR,hi,hj]using h2
def par(k:Nat):Nat:=(k-1)/2
def Heap(h:List It)(n:Nat):Prop:=∀k,0<k->k<n->leI (at_ h (par k)) (at_ h k)
def zI:Nat->List It->Nat->List It
 |0,h,_=>h
 |f+1,h,j=>if par j=j\/jU (at_ h j) (at_ h (par j))=false then h else zI f (iH h (par j) j) (par j)
structure acI(h:List It)(n j:Nat):Prop where
 jn:j<n
 heap:∀k,0<k->k<n->k≠j->leI (at_ h (par k)) (at_ h k)
 kids:∀k,0<k->k<n->par k=j->0<j->leI (at_ h (par j)) (at_ h k)
theorem ajr:∀(f:Nat)(h:List It)(j n:Nat),j<f->n=h.length->acI h n j->Heap (zI f h j) n/\(zI f h j).Perm h
 |0,h,j,n,hf,_,_=>by omega
 |f+1,h,j,n,hf,hn,hu=>by
  unfold zI;split
  ·next hc=>
   refine⟨λk h0 hk=>?_,ab5 _⟩;by_cases e:k=j
   ·subst e;rcases hc with hc|hc
    ·unfold par at hc;omega
    ·exact hc
   ·exact hu.heap k h0 hk e
  ·next hc=>
   rw[not_or]at hc;obtain⟨c1,c2⟩:=hc;have c2:jU (at_ h j) (at_ h (par j))=true:=by simpa using c2
   have j0:0<j:=by
    rcases QD j with e|e
    ·subst e;exact absurd rfl c1
    ·exact e
   have hp:par j<j:=by unfold par;omega
   have hjn:=hu.jn;have hsw:=Xr h (i:=par j) (j:=j) (by omega) (by omega);have hu2:acI (iH h (par j) j) n (par j):=by
    refine⟨by omega,λk h0 hk hne=>?_,λk h0 hk hpk hp0=>?_⟩
    ·rw[hsw,hsw];by_cases e1:k=j
     ·subst e1;rw[ah (by omega),aj rfl,aj rfl];exact O0 c2
     ·rw[ah e1,ah hne];by_cases e2:par k=j
      ·rw[aj e2];exact hu.kids k h0 hk e2 j0
      ·rw[ah e2];by_cases e3:par k=par j
       ·rw[aj e3];exact Zp (O0 c2) (e3▸hu.heap k h0 hk e1)
       ·rw[ah e3];exact hu.heap k h0 hk e1
    ·rw[hsw,hsw];have q:par (par j)<par j:=by unfold par at *;omega
     rw[ah (by omega),ah (by omega)];have hg:=hu.heap (par j) hp0 (by omega) (by omega);by_cases e1:k=j
     ·subst e1;rw[aj rfl];exact hg
     ·rw[ah e1,ah (λe=>by rw[e]at hpk;omega)];exact Zp hg (hpk▸hu.heap k h0 hk e1)
   obtain⟨r1,r2⟩:=ajr f (iH h (par j) j) (par j) n (by omega) (by rw[DZ];exact hn) hu2;exact⟨r1,r2.trans (swap_perm h (by omega) (by omega))⟩
def rX(h:List It)(x:It):List It:=zI (h.length+1) (h++[x]) h.length
theorem LY(h:List It)(x:It)(hh:Heap h h.length):Heap (rX h x) (h.length+1)/\(rX h x).Perm (h++[x]):=by
 refine ajr _ _ _ _ (by omega) (by simp) ⟨by omega,λk h0 hk hne=>?_,λk h0 hk hpk _=>?_⟩
 ·have hk2:k<h.length:=by omega
  have e1:at_ (h++[x]) k=at_ h k:=by simp[at_,mP (show k<h.length by omega)]
  have e2:at_ (h++[x]) (par k)=at_ h (par k):=by simp[at_,mP (show par k<h.length by unfold par;omega)]
  rw[e1,e2];exact hh k h0 (by omega)
 ·exfalso;unfold par at hpk;omega
def kid(h:List It)(i n:Nat):Nat:=if 2*i+2<n/\jU (at_ h (2*i+2)) (at_ h (2*i+1))=true then 2*i+2 else 2*i+1
def lZ:Nat->List It->Nat->Nat->List It
 |0,h,_,_=>h
 |f+1,h,i,n=>if n<=2*i+1\/jU (at_ h (kid h i n)) (at_ h i)=false then h else lZ f (iH h i (kid h i n)) (kid h i n) n
structure abW(h:List It)(n i:Nat):Prop where
 heap:∀k,0<k->k<n->par k≠i->leI (at_ h (par k)) (at_ h k)
 kids:∀k,0<k->k<n->par k=i->0<i->leI (at_ h (par i)) (at_ h k)
theorem af2{h:List It}{i n:Nat}(h1:2*i+1<n):kid h i n<n/\par (kid h i n)=i/\i<kid h i n/\∀k,0<k->k<n->par k=i->leI (at_ h (kid h i n)) (at_ h k):=by
 unfold kid;have two:∀k,0<k->par k=i->k=2*i+1\/k=2*i+2:=λk h0 hk=>by unfold par at hk;omega
 split
 ·next hc=>
  refine⟨hc.1,by unfold par;omega,by omega,λk h0 hk hpk=>?_⟩;rcases two k h0 hpk with rfl|rfl
  ·exact O0 hc.2
  ·exact agh _
 ·next hc=>
  refine⟨h1,by unfold par;omega,by omega,λk h0 hk hpk=>?_⟩;rcases two k h0 hpk with rfl|rfl
  ·exact agh _
  ·have:¬jU (at_ h (2*i+2)) (at_ h (2*i+1))=true:=λe=>hc ⟨hk,e⟩;unfold leI;simpa using this
theorem aef:∀(f:Nat)(h:List It)(i n:Nat),n-i<f->n<=h.length->abW h n i->Heap (lZ f h i n) n/\(lZ f h i n).Perm h/\∀k,n<=k->at_ (lZ f h i n) k=at_ h k
 |0,h,i,n,hf,_,_=>by omega
 |f+1,h,i,n,hf,hn,hd=>by
  unfold lZ;split
  ·next hc=>
   refine⟨λk h0 hk=>?_,ab5 _,λ_ _=>rfl⟩;by_cases e:par k=i
   ·by_cases hlt:n<=2*i+1
    ·unfold par at e;omega
    ·have hc:=hc.resolve_left hlt;have:=(af2 (h:=h) (i:=i) (n:=n) (by omega)).2.2.2 k h0 hk e;rw[e];exact Zp hc this
   ·exact hd.heap k h0 hk e
  ·next hc=>
   rw[not_or]at hc;obtain⟨c1,c2⟩:=hc;have c2:jU (at_ h (kid h i n)) (at_ h i)=true:=by simpa using c2
   obtain⟨k1,k2,k3,k4⟩:=af2 (h:=h) (i:=i) (n:=n) (by omega);generalize kid h i n=j at *;have hsw:=Xr h (i:=i) (j:=j) (by omega) (by omega);have hd2:abW (iH h i j) n j:=by
    refine⟨λk h0 hk hne=>?_,λk h0 hk hpk hj0=>?_⟩
    ·rw[hsw,hsw];rw[ah hne];by_cases e1:k=j
     ·subst e1;rw[aj rfl,k2,aj rfl];exact O0 c2
     ·rw[ah e1];by_cases e2:par k=i
      ·rw[aj e2];by_cases e3:k=i
       ·unfold par at e2;omega
       ·rw[ah e3];exact k4 k h0 hk e2
      ·rw[ah e2];by_cases e3:k=i
       ·rw[aj e3];subst e3;exact hd.kids j (by omega) k1 k2 h0
       ·rw[ah e3];exact hd.heap k h0 hk e2
    ·rw[hsw,hsw];have q1:par j=i:=k2;rw[ah (by omega),aj q1];rw[ah (by unfold par at hpk;omega),ah (by unfold par at hpk q1;omega)];exact hpk▸hd.heap k h0 hk (by omega)
   obtain⟨r1,r2,r3⟩:=aef f (iH h i j) j n (by omega) (by rw[DZ];exact hn) hd2;refine⟨r1,r2.trans (swap_perm h (by omega) (by omega)),λk hk=>?_⟩;rw[r3 k hk,hsw,ah (by omega),ah (by omega)]
theorem afX{h:List It}{k:Nat}(hk:k<h.length):(h.map bJ)[k]? =some (bJ (at_ h k)):=by rw[iP,bK hk];simp[at_,hk]
theorem av3(x:It)(a b:Int)(c:Q0):(bJ x).put 0 [.i .u64 a,.i .u64 b,.s c]=some (bJ (a,b,c)):=rfl
theorem ay4(h:List It)(k:Nat)(x:It):(h.map bJ).set k (bJ x)=(h.set k x).map bJ:=by rw[WM]
theorem asA(x:It):bJ (x.1,x.2.1,x.2.2)=bJ x:=rfl
theorem zl{h:List It}{k:Nat}(hk:k<h.length):Dc (some (.l (h.map bJ))) (some (.i .i64 (k:Int)))=some (.i .i64 (k:Int)):=by rw[jh,aj ⟨by omega,by rw[fE];omega⟩]
theorem zY{h:List It}{k:Nat}(hk:k<h.length):at2 3 (some (.l (h.map bJ))) (some (.i .i64 (k:Int)))=some (bJ (at_ h k)):=by rw[dY,aj (by omega),show((k:Int)).toNat=k by omega,afX hk];rfl
theorem Jo{h:List It}{k:Nat}(hk:k<h.length)(x:It):D7 3 0 (some (.l (h.map bJ))) (some (.i .i64 (k:Int))) (some [.i .u64 x.1,.i .u64 x.2.1,.s x.2.2])=some (.l ((h.set k x).map bJ)):=by rw[sF,aj ⟨by omega,rfl⟩,show((k:Int)).toNat=k by omega,afX hk];simp only[yQ,asz,gQ,kT,if_true,av3,asA,gI,ay4]
theorem au6(j:Nat)(hj:j<=1000000):IntKind.i64.wrap ((IntKind.i64.wrap ((j:Int)-1)).tdiv 2)=(par j:Nat)/\IntKind.i64.wrap ((j:Int)-1)=(j:Int)-1:=by
 have h1:=wrap64 (n:=(j:Int)-1) (by omega) (by omega);have h2:((j:Int)-1).tdiv 2=(par j:Nat):=by
  rcases QD j with e|e
  ·subst e;rfl
  ·have:(j:Int)-1=((j-1:Nat):Int):=by omega
   rw[this];exact(Int.ofNat_tdiv (j-1) 2).symm
 refine⟨?_,h1⟩;rw[h1,h2];exact wrap64 (by omega) (by unfold par;omega)
theorem ajs:∀(f:Nat)(h:List It)(j:Nat)(c:GV),j<f->j<h.length->h.length<=1000000->
 TT.lim 139 [.i .i64 (j:Int),.l (h.map bJ),c]=some [.i .i64 0,.l ((zI f h j).map bJ)]
 |0,h,j,c,hf,_,_=>by omega
 |f+1,h,j,c,hf,hj,hl=>by
  obtain⟨w1,w2⟩:=au6 j (by omega);rw[w2]at w1;have hp:par j<h.length:=by unfold par;omega
  have a1:=zY hj;have a2:=zY hp;have i1:=zl hj;have i2:=zl hp;have u1:=Jo hp (at_ h j);have hj2:j<(h.set (par j) (at_ h j)).length:=by rw[F8];exact hj
  have u2:=Jo hj2 (at_ h (par j));have i3:=zl hj2;have ih:=λhlt:par j<f=>ajs f (iH h (par j) j) (par j) c hlt (by rw[DZ];exact hp) (by rw[DZ];exact hl);have hs:(h.set (par j) (at_ h j)).set j (at_ h (par j))=iH h (par j) j:=rfl;rw[hs]at u2;have hle:par j<=j:=by unfold par;omega
  by_cases e:par j=j
  ·have hu:zI (f+1) h j=h:=aj (.inl e);rw[hu];have e':((par j:Nat):Int)=(j:Int):=by omega
   refine au rfl rfl ?_;simp[w1,w2,e']
  ·have e':¬((par j:Nat):Int)=(j:Int):=by omega
   have ih:=ih (by omega);have hu:zI (f+1) h j=if jU (at_ h j) (at_ h (par j))=false then h else zI f (iH h (par j) j) (par j):=by
    show(if par j=j\/jU (at_ h j) (at_ h (par j))=false then h else zI f (iH h (par j) j) (par j))=_
    by_cases hc:jU (at_ h j) (at_ h (par j))=false
    ·rw[aj (.inr hc),aj hc]
    ·rw[ah (λh=>h.elim e hc),ah hc]
   rw[hu];generalize at_ h j=x at *;generalize at_ h (par j)=y at *;generalize iH h (par j) j=h2 at *;generalize h.set (par j) x=h3 at *;generalize((par j:Nat):Int)=pj at *;refine au rfl rfl ?_;unfold jU;by_cases c1:x.1=y.1
   ·have c1:=eq_true c1;by_cases c2:x.2.1<y.2.1
    ·simp[-jh,-dY,-sF,w1,w2,e',a1,a2,i1,i2,i3,u1,u2,c1,c2,ih]
    ·simp[-jh,-dY,-sF,w1,w2,e',a1,a2,i1,i2,c1,c2]
   ·by_cases c2:x.1<y.1
    ·simp[-jh,-dY,-sF,w1,w2,e',a1,a2,i1,i2,i3,u1,u2,c1,c2,ih]
    ·simp[-jh,-dY,-sF,w1,w2,e',a1,a2,i1,i2,c1,c2]
theorem aAH(h:List It)(j:Nat)(c:GV)(hj:j<h.length)(hl:h.length<=1000000):TT.lim 138 [.i .i64 (j:Int),.l (h.map bJ),c]=some [.i .i64 0,.l ((zI (j+1) h j).map bJ)]:=by have h0:=ajs (j+1) h j c (by omega) hj hl;refine au rfl rfl ?_;simp[h0]
theorem AQ{a b:It}{v:Bool}(h:jU a b=v):((a.1=b.1)=True/\(a.2.1<b.2.1)=(v=true))\/((a.1=b.1)=False/\(a.1<b.1)=(v=true)):=by
 unfold jU at h;by_cases e:a.1=b.1
 ·rw[aj e]at h;refine .inl ⟨eq_true e,?_⟩;rw[<-h,decide_eq_true_eq]
 ·rw[ah e]at h;refine .inr ⟨eq_false e,?_⟩;rw[<-h,decide_eq_true_eq]
theorem aeg:∀(f:Nat)(h:List It)(i n:Nat)(a0 c:GV),n-i<f->n<=h.length->h.length<=1000000->i<=1000000->
 ∃i':Nat,TT.lim 164 [a0,.i .i64 (n:Int),.i .i64 (i:Int),.l (h.map bJ),c]=some [.i .i64 0,.i .i64 (i':Int),.l ((lZ f h i n).map bJ)]
 |0,h,i,n,a0,c,hf,_,_,_=>by omega
 |f+1,h,i,n,a0,c,hf,hn,hl,hi=>by
  have TY:lZ (f+1) h i n=if n<=2*i+1\/jU (at_ h (kid h i n)) (at_ h i)=false then h else lZ f (iH h i (kid h i n)) (kid h i n) n:=rfl
  have w1:=wrap64 (n:=2*(i:Int)) (by omega) (by omega);have w2:=wrap64 (n:=2*(i:Int)+1) (by omega) (by omega);have w3:=wrap64 (n:=2*(i:Int)+1+1) (by omega) (by omega);by_cases h1:n<=2*i+1
  ·rw[TY,aj (.inl h1)];have h1':(n:Int)<=2*(i:Int)+1:=by omega
   refine⟨i,au rfl rfl ?_⟩;simp[w1,w2,h1']
  have h1':¬(n:Int)<=2*(i:Int)+1:=by omega
  have h1n:¬(2*(i:Int)+1<0):=by omega
  have hj1:2*i+1<h.length:=by omega
  have hii:i<h.length:=by omega
  have e1:2*(i:Int)+1=((2*i+1:Nat):Int):=by omega
  have e2:2*(i:Int)+1+1=((2*i+2:Nat):Int):=by omega
  have a1:=zY hj1;have i1:=zl hj1;have ay:=zY hii;have iy:=zl hii
  have step:∀j:Nat,j<n->i<j->(∃i':Nat,TT.lim 164 [a0,.i .i64 (n:Int),.i .i64 (j:Int),.l ((iH h i j).map bJ),c]=some [.i .i64 0,.i .i64 (i':Int),.l ((lZ f (iH h i j) j n).map bJ)])/\
   D7 3 0 (some (.l (h.map bJ))) (some (.i .i64 (i:Int))) (some [.i .u64 (at_ h j).1,.i .u64 (at_ h j).2.1,.s (at_ h j).2.2])=some (.l ((h.set i (at_ h j)).map bJ))/\
   D7 3 0 (some (.l ((h.set i (at_ h j)).map bJ))) (some (.i .i64 (j:Int))) (some [.i .u64 (at_ h i).1,.i .u64 (at_ h i).2.1,.s (at_ h i).2.2])=some (.l ((iH h i j).map bJ)):=by
   intro j hj hij;refine⟨aeg f (iH h i j) j n a0 c (by omega) (by rw[DZ];exact hn) (by rw[DZ];exact hl) (by omega),Jo hii (at_ h j),?_⟩;exact Jo (h:=h.set i (at_ h j)) (by rw[F8];omega) (at_ h i)
  by_cases h2:2*i+2<n
  ·have h2':2*(i:Int)+1+1<(n:Int):=by omega
   have hj2:2*i+2<h.length:=by omega
   have a2:=zY hj2;have i2:=zl hj2;rw[<-e1]at a1 i1;rw[<-e2]at a2 i2;by_cases hk:jU (at_ h (2*i+2)) (at_ h (2*i+1))=true
   ·have OQ:kid h i n=2*i+2:=by unfold kid;rw[aj ⟨h2,hk⟩]
    rw[TY,OQ];obtain⟨⟨i',ih⟩,u1,u2⟩:=step (2*i+2) h2 (by omega);rw[<-e2]at ih u2;generalize at_ h (2*i+2)=x2 at *;generalize at_ h (2*i+1)=x1 at *;generalize at_ h i=y at *;generalize lZ f (iH h i (2*i+2)) (2*i+2) n=R at *;generalize iH h i (2*i+2)=S at *;generalize h.set i x2=H2 at *;cases hc:jU x2 y with
    |true=>refine⟨i',?_⟩;rw[ah (λe=>e.elim h1 (by simp))];refine au rfl rfl ?_;rcases AQ hk with⟨p1,p2⟩|⟨p1,p2⟩<;>rcases AQ hc with⟨q1,q2⟩|⟨q1,q2⟩<;>simp[-jh,-dY,-sF,w1,w2,w3,h1',h1n,h2',a1,a2,ay,i1,i2,iy,p1,p2,q1,q2,u1,u2,ih]
    |false=>refine⟨i,?_⟩;rw[aj (.inr rfl)];refine au rfl rfl ?_;rcases AQ hk with⟨p1,p2⟩|⟨p1,p2⟩<;>rcases AQ hc with⟨q1,q2⟩|⟨q1,q2⟩<;>simp[-jh,-dY,-sF,w1,w2,w3,h1',h1n,h2',a1,a2,ay,i1,i2,iy,p1,p2,q1,q2]
   ·have OQ:kid h i n=2*i+1:=by unfold kid;rw[ah (λe=>hk e.2)]
    have hk:jU (at_ h (2*i+2)) (at_ h (2*i+1))=false:=by simpa using hk
    rw[TY,OQ];obtain⟨⟨i',ih⟩,u1,u2⟩:=step (2*i+1) (by omega) (by omega);rw[<-e1]at ih u2;generalize at_ h (2*i+2)=x2 at *;generalize at_ h (2*i+1)=x1 at *;generalize at_ h i=y at *;generalize lZ f (iH h i (2*i+1)) (2*i+1) n=R at *;generalize iH h i (2*i+1)=S at *;generalize h.set i x1=H2 at *;cases hc:jU x1 y with
    |true=>refine⟨i',?_⟩;rw[ah (λe=>e.elim h1 (by simp))];refine au rfl rfl ?_;rcases AQ hk with⟨p1,p2⟩|⟨p1,p2⟩<;>rcases AQ hc with⟨q1,q2⟩|⟨q1,q2⟩<;>simp[-jh,-dY,-sF,w1,w2,w3,h1',h1n,h2',a1,a2,ay,i1,i2,iy,p1,p2,q1,q2,u1,u2,ih]
    |false=>refine⟨i,?_⟩;rw[aj (.inr rfl)];refine au rfl rfl ?_;rcases AQ hk with⟨p1,p2⟩|⟨p1,p2⟩<;>rcases AQ hc with⟨q1,q2⟩|⟨q1,q2⟩<;>simp[-jh,-dY,-sF,w1,w2,w3,h1',h1n,h2',a1,a2,ay,i1,i2,iy,p1,p2,q1,q2]
  ·have h2':¬2*(i:Int)+1+1<(n:Int):=by omega
   have OQ:kid h i n=2*i+1:=by unfold kid;rw[ah (λe=>h2 e.1)]
   rw[<-e1]at a1 i1;rw[TY,OQ];obtain⟨⟨i',ih⟩,u1,u2⟩:=step (2*i+1) (by omega) (by omega);rw[<-e1]at ih u2;generalize at_ h (2*i+1)=x1 at *;generalize at_ h i=y at *;generalize lZ f (iH h i (2*i+1)) (2*i+1) n=R at *;generalize iH h i (2*i+1)=S at *;generalize h.set i x1=H2 at *;cases hc:jU x1 y with
   |true=>refine⟨i',?_⟩;rw[ah (λe=>e.elim h1 (by simp))];refine au rfl rfl ?_;rcases AQ hc with⟨q1,q2⟩|⟨q1,q2⟩<;>simp[-jh,-dY,-sF,w1,w2,w3,h1',h1n,h2',a1,ay,i1,iy,q1,q2,u1,u2,ih]
   |false=>refine⟨i,?_⟩;rw[aj (.inr rfl)];refine au rfl rfl ?_;rcases AQ hc with⟨q1,q2⟩|⟨q1,q2⟩<;>simp[-jh,-dY,-sF,w1,w2,w3,h1',h1n,h2',a1,ay,i1,iy,q1,q2]
def mJ(h:List It):List It:=(lZ (h.length-1+1) (iH h 0 (h.length-1)) 0 (h.length-1)).take (h.length-1)
theorem Yc:∀(f:Nat)(h:List It)(i n:Nat),(lZ f h i n).length=h.length
 |0,h,i,n=>rfl
 |f+1,h,i,n=>by
  unfold lZ;split
  ·rfl
  ·rw[Yc,DZ]
theorem ac1{h:List It}{n k:Nat}(hk:k<n):at_ (h.take n) k=at_ h k:=by unfold at_;simp[List.getD,kS,hk]
theorem Va(h:List It)(n:Nat)(hn:h.length=n+1)(hh:Heap h (n+1)):
 (mJ h).length=n/\Heap (mJ h) n/\(at_ h 0::mJ h).Perm h/\at_ (lZ (n+1) (iH h 0 n) 0 n) n=at_ h 0:=by
 have hl:(iH h 0 n).length=n+1:=by rw[DZ,hn]
 have hat:=Xr h (i:=0) (j:=n) (by omega) (by omega);have hd:=aef (n+1) (iH h 0 n) 0 n (by omega) (by omega) ⟨λk h0 hk hp=>by
  have hpk:par k<k:=by unfold par;omega
  rw[hat,hat,ah (by omega),ah hp,ah (by omega),ah (by omega)];exact hh k h0 (by omega),λk h0 hk hp h00=>by omega⟩
 obtain⟨d1,d2,d3⟩:=hd;have hlast:at_ (lZ (n+1) (iH h 0 n) 0 n) n=at_ h 0:=by rw[d3 n (by omega),hat,aj rfl]
 have hdl:(lZ (n+1) (iH h 0 n) 0 n).length=n+1:=by rw[Yc,hl]
 have hr:mJ h=(lZ (n+1) (iH h 0 n) 0 n).take n:=by unfold mJ;rw[hn];rfl
 generalize lZ (n+1) (iH h 0 n) 0 n=D at *;refine⟨by rw[hr,kF,hdl];omega,?_,?_,hlast⟩
 ·intro k h0 hk;have hpk:par k<k:=by unfold par;omega
  rw[hr,ac1 (by omega),ac1 hk];exact d1 k h0 hk
 ·have e:D.take n++[at_ h 0]=D:=by
   rw[<-hlast];have:at_ D n=D[n]'(by omega):=by simp[at_,List.getD,bK (show n<D.length by omega)]
   rw[this,List.take_append_getElem (show n<D.length by omega),jZ (by omega)]
  have p1:(at_ h 0::mJ h).Perm (D.take n++[at_ h 0]):=by rw[hr];exact(ajW (l₁:=[at_ h 0]) (l₂:=D.take n))
  rw[e]at p1;exact p1.trans (d2.trans (swap_perm h (by omega) (by omega)))
theorem PI(h:List It)(x:It)(hh:Heap h h.length):(rX h x).length=h.length+1:=by have:=(LY h x hh).2.length_eq;simpa using this
def fB:Nat->Int->List It->List Q0×List It
 |0,_,h=>([],h)
 |m+1,t,h=>if h=[]\/t<(at_ h 0).1 then([],h)else((at_ h 0).2.2::(fB m t (mJ h)).1,(fB m t (mJ h)).2)
theorem Sz(t:Int):∀(m:Nat)(h:List It),h.length=m->Heap h h.length->Heap (fB m t h).2 (fB m t h).2.length/\(fB m t h).1.length+(fB m t h).2.length=m
 |0,h,hm,hh=>by simp only[fB];exact⟨hh,by simpa using hm⟩
 |m+1,h,hm,hh=>by
  simp only[fB];split
  ·exact⟨hh,by simpa using hm⟩
  ·obtain⟨r1,r2,r3,-⟩:=Va h m hm (by rw[<-hm];exact hh);obtain⟨a,b⟩:=Sz t m (mJ h) r1 (by rw[r1];exact r2);exact⟨a,by simp only[gQ];omega⟩
structure NH(h L:List It)(n:Int):Prop where
 heap:Heap h h.length
 perm:L.Perm h
 srt:L.Pairwise (λx y=>jU x y=true)
 low:∀x∈L,x.2.1<n
theorem NH.len{h L:List It}{n:Int}(s:NH h L n):h.length=L.length:=s.perm.length_eq.symm
def insL(x:It):List It->List It
 |[]=>[x]
 |y::L=>if y.1<=x.1 then y::insL x L else x::y::L
theorem Ub(x:It):∀L,(insL x L).Perm (L++[x])
 |[]=>ab5 _
 |y::L=>by
  unfold insL;split
  ·exact(Ub x L).cons y
  ·exact ajW (l₁:=[x]) (l₂:=y::L)
theorem ate{y x:It}(h:y.1<=x.1)(h2:y.2.1<x.2.1):jU y x=true:=by
 unfold jU;split
 ·simpa using h2
 ·simp;omega
theorem agA{y x:It}(h:x.1<y.1):jU x y=true:=by unfold jU;rw[ah (by omega)];simpa using h
theorem atd{x y:It}(h:jU x y=true):x.1<=y.1:=asZ (O0 h)
theorem afQ(x:It):∀L:List It,L.Pairwise (λa b=>jU a b=true)->(∀y∈L,y.2.1<x.2.1)->(insL x L).Pairwise (λa b=>jU a b=true)
 |[],_,_=>by simp[insL]
 |y::L,hs,hlow=>by
  obtain⟨h1,h2⟩:=iV.1 hs;unfold insL;split
  ·next hc=>
   refine iV.2 ⟨λz hz=>?_,afQ x L h2 λz hz=>hlow z (wY _ hz)⟩;rcases kG.1 ((Ub x L).mem_iff.1 hz)with g|g
   ·exact h1 z g
   ·rw[uy]at g;subst g;exact ate hc (hlow y Qz)
  ·next hc=>
   refine iV.2 ⟨λz hz=>?_,hs⟩;rcases bG.1 hz with rfl|g
   ·exact agA (by omega)
   ·exact agA (by have:=atd (h1 z g);omega)
theorem NH.put{h L:List It}{n a:Int}{t:Q0}(s:NH h L n):NH (rX h (a,n,t)) (insL (a,n,t) L) (n+1):=by
 have hp:=LY h (a,n,t) s.heap;have hl:=PI h (a,n,t) s.heap;refine⟨by rw[hl];exact hp.1,(Ub _ _).trans ((s.perm.append_right _).trans hp.2.symm),afQ _ _ s.srt s.low,λx hx=>?_⟩;rcases kG.1 ((Ub _ _).mem_iff.1 hx)with g|g
 ·have:=s.low x g;omega
 ·rw[uy]at g;subst g;show n<n+1
  omega
theorem wrap_u64(n:Int):0<=IntKind.u64.wrap n/\IntKind.u64.wrap n<18446744073709551616:=by
 have:IntKind.u64.wrap n=n%18446744073709551616:=by simp[IntKind.wrap,IntKind.signed,IntKind.bits]
 rw[this];omega
theorem agz{k:List Sn}{i:Nat}(hi:i<=k.length):Lj 2 (some (.l (k.map sn))) (some (.i .i64 (i:Int))) (some (.i .i64 (k.length:Int)))=some (.l ((k.drop i).map sn)):=by
 rw[lD,aj]
 ·congr 2;rw[wX,wX,jZ (by simp),List.map_drop]
 ·refine⟨by omega,by omega,by simp,?_⟩;rw[List.all_map];exact List.all_eq_true.2 λx _=>rfl
theorem aiO(k:List Sn):(k.map sn).all (GV.fC 2)=true:=by rw[List.all_map];exact List.all_eq_true.2 λx _=>rfl
theorem aiv(t:List Row)(e:Int)(ht:fQ t):∀(m i:Nat)(acc:List Row),i+m=t.length->acc.length=i->
 TT.lim 42 [.l (t.map row),.i .i64 t.length,.i .i64 i,.i .u64 e,.l (acc.map row)]=some [.i .i64 0,.l ((acc++t.drop i).map row)]
 |0,i,acc,hi,hl=>by
  have h0:t.drop i=[]:=fZ (by omega);have h:¬((i:Int)<t.length):=by omega
  refine au rfl rfl ?_;simp[h,h0]
 |m+1,i,acc,hi,hl=>by
  have hlt:i<t.length:=by omega
  have h3:=ht.len;have kc:=EG t[i].1 (CQ (ht.few _ (gK hlt)));have hrow:GV.g [.l (t[i].1.map ent),.i .u64 t[i].2]=row t[i]:=rfl;have hok:(row t[i]).fC 2=true:=rfl;have hbb:2*(acc.length+1)*32<=281474976710656/\acc.length+1<=281474976710656:=by omega
  have h:((i:Int)<t.length):=by omega
  have hw:=wrap64 (n:=(i:Int)+1) (by omega) (by omega);have ih:TT.lim 42 [.l (t.map row),.i .i64 t.length,.i .i64 ((i:Int)+1),.i .u64 e,.l ((acc++[t[i]]).map row)]=_:=aiv t e ht m (i+1) (acc++[t[i]]) (by omega) (by simp;omega);have hdr:acc++t.drop i=acc++[t[i]]++t.drop (i+1):=by rw[List.append_assoc,Nu,<-gY hlt]
  rw[hdr];generalize acc++[t[i]]++t.drop (i+1)=R at *;simp only[lX,iD,jl]at ih;refine au rfl rfl ?_;simp[-List.getElem_cons_drop,h,hlt,hw,kc,hrow,hok,hbb,ih]
theorem PZ(s:Sn)(h:fQ s.2):TT.lim 41 [sn s]=some [sn s]:=by
 have k:TT.lim 42 [.l (s.2.map row),.i .i64 s.2.length,.i .i64 0,.i .u64 s.1,.l []]=_:=aiv s.2 s.1 h s.2.length 0 [] (by omega) rfl;rw[aV,dD]at k;have h3:=h.len;have hr:(32:Int)*s.2.length<=281474976710656/\(s.2.length:Int)<=1152921504606846976:=by omega
 have hel:(GV.g [.l [],.i .u64 0]).fC 2=true:=rfl;have e1:GV.g [.i .u64 s.1,.l (s.2.map row)]=sn s:=rfl;refine aP rfl rfl ?_ rfl;simp[hr,hel,k,e1]
structure Kp(k:List Sn):Prop where
 len:k.length<=8
 tb:∀s∈k,Tb s.2
 pos:∀s∈k,0<s.1/\s.1<18446744073709551616
 rise:k.Pairwise λa b=>a.1<b.1/\mX b.2 a.2=true
theorem Kp.nil:Kp []:=⟨by decide,by simp,by simp,List.Pairwise.nil⟩
theorem asV(v b:GV):TT.lim 54 [v,.l [],b]=some [.i .i64 0,.i .u64 0,.l [],.b false]:=by refine au rfl rfl ?_;simp
theorem asU(v b:GV)(k:List Sn)(m:Nat)(x:Sn)(hk:k.length=m+1)(hm:m<=1000)(hx:k[m]? =some x)(hg:fQ x.2):
 TT.lim 54 [v,.l (k.map sn),b]=some [.i .i64 0,.i .u64 x.1,.l (x.2.map row),.b true]:=by
 have kc:=PZ x hg;have hw:=wrap64 (n:=(m:Int)) (by omega) (by omega);have hc:((k.length:Nat):Int)=(m:Int)+1:=by omega
 have hne:¬((m:Int)+1=0):=by omega
 have hlt:(m:Int)<(m:Int)+1:=by omega
 have e1:GV.g [.i .u64 x.1,.l (x.2.map row)]=sn x:=rfl;refine au rfl rfl ?_;simp[hc,hne,hw,hx,kc,e1,hlt]
def jG(e:Int)(k:List Sn):QR:=k.findIdx? λs=>decide (s.1=e)
def pI:QR->List GV
 |some j=>[.i .i64 0,.i .i64 (j:Int)]
 |none=>[.i .i64 1]
theorem S9{e:Int}{k:List Sn}{j:Nat}(h:jG e k=some j):∃x,k[j]? =some x/\x.1=e/\j<k.length:=by unfold jG at h;obtain⟨h1,h2,-⟩:=List.findIdx?_eq_some_iff_getElem.1 h;exact⟨k[j],bK h1,by simpa using h2,h1⟩
def BR(e:Int)(k:List Sn)(b:Int):Bool×List Sn×Int:=if e<=b then(false,k,b)else match jG e k with
 |none=>(false,k,b)
 |some i=>(true,k.drop i,e)
def yT(x:Sn)(b:Int):List Sn->List Sn×Int
 |[]=>([x],b)
 |y::r=>if 8<r.length+2 then(r++[x],if y.1=b then 0 else b)else(y::r++[x],b)
def uh(x:Sn)(k:List Sn)(b:Int):Int×List Sn×Int:=
 if nD x.2≠0 then(nD x.2,k,b)else if x.1=0 then(18,k,b)else match k.getLast? with
 |none=>(0,yT x b k)
 |some l=>if x.1<=l.1 then(20,k,b)else if mX x.2 l.2=false then(21,k,b)else(0,yT x b k)
theorem last_at{k:List Sn}{l:Sn}(h:k.getLast? =some l):∃m,k.length=m+1/\k[m]? =some l/\l∈k:=by
 cases hk:k with
 |nil=>subst hk;simp at h
 |cons y r=>
  refine⟨r.length,by simp,?_,?_⟩
  ·rw[<-hk,<-h,List.getLast?_eq_getElem?,hk];simp
  ·rw[<-hk];exact aco h
theorem last_none{k:List Sn}(h:k.getLast? =none):k=[]:=List.getLast?_eq_none_iff.1 h
theorem avS(x:Sn)(v:GV)(k:List Sn)(b:Int)(hx:fQ x.2)(hk:Kp k):
 TT.lim 46 [.i .u64 x.1,.l (x.2.map row),v,.l (k.map sn),.i .u64 b]=some [.i .i64 0,.i .i64 (uh x k b).1,.l ((uh x k b).2.1.map sn),.i .u64 (uh x k b).2.2]:=by
 have k1:=RS x hx;have kc:=PZ x hx;have e1:GV.g [.i .u64 x.1,.l (x.2.map row)]=sn x:=rfl;have hel:(sn x).fC 2=true:=rfl;unfold uh;by_cases h1:nD x.2=0;rotate_left
 ·rw[aj h1];refine au rfl rfl ?_;simp[e1,k1,h1]
 rw[ah (by simpa using h1)];by_cases h2:x.1=0
 ·rw[aj h2];have h2':(x.1=0)=True:=eq_true h2;clear h2;refine au rfl rfl ?_;simp[e1,k1,h1,h2']
 rw[ah h2];have h8:=hk.len;cases hl:k.getLast? with
 |none=>obtain rfl:=last_none hl;refine au rfl rfl ?_;simp[e1,k1,h1,h2,kc,hel,yT]
 |some l=>
  obtain⟨m,hm,ha,hmem⟩:=last_at hl;have hc:((k.length:Nat):Int)=(m:Int)+1:=by omega
  have hp:(0:Int)<(m:Int)+1:=by omega
  have hlt:(m:Int)<(m:Int)+1:=by omega
  have hw:=wrap64 (n:=(m:Int)) (by omega) (by omega);simp only;by_cases h3:x.1<=l.1
  ·rw[aj h3];refine au rfl rfl ?_;simp[e1,k1,h1,h2,hc,hp,hw,ha,h3,hlt]
  rw[ah h3];have k4:=acZ x.2 l.2 ((vU _).1 h1).1 (hk.tb l hmem).ok.1 hx.few (hk.tb l hmem).few;cases h4:mX x.2 l.2 with
  |false=>rw[h4]at k4;refine au rfl rfl ?_;simp[e1,k1,h1,h2,hc,hp,hw,ha,h3,k4,hlt]
  |true=>
   rw[h4]at k4;rw[ah (by simp)];have hlen:(k++[x]).length=m+2:=by simp;omega
   have hls:=agz (k:=k++[x]) (i:=1) (by omega);have hap:Gs 2 32 (some (.l (k.map sn))) (some (.l [sn x]))=some (.l ((k++[x]).map sn)):=by
    rw[Eo,aj]
    ·rw[lX];rfl
    ·refine⟨rfl,?_,?_⟩<;>simp only[fE,gQ,kT]<;>omega
   have hw2:=wrap64 (n:=(m:Int)+2) (by omega) (by omega);cases k with
   |nil=>simp at hl
   |cons y r=>
    have hr:r.length=m:=by simpa using hm
    by_cases h5:8<m+2
    ·have hb:2*((y::r++[x]).drop 1).length*32<=281474976710656/\((y::r++[x]).drop 1).length<=281474976710656:=by rw[eX];omega
     have hal:=aiO ((y::r++[x]).drop 1);have hd:(y::r++[x]).drop 1=r++[x]:=rfl;have hn:(m:Int)+1+1=(m:Int)+2:=by omega
     have h6:(8:Int)<(m:Int)+2:=by omega
     have h0:((y::r++[x]).map sn)[0]? =some (sn y):=rfl;have hpos:(0:Int)<(m:Int)+2:=by omega
     have hcl:(((y::r++[x]).length:Nat):Int)=(m:Int)+2:=by omega
     have KW:(((y::r++[x]).map sn).length:Int)=(m:Int)+2:=by rw[fE];exact hcl
     have TM:(((y::r).map sn).length:Int)=(m:Int)+1:=by rw[fE];exact hc
     have hat:((y::r).map sn)[m]? =some (sn l):=by rw[iP,ha];rfl
     have afE:Lj 2 (some (.l ((y::r++[x]).map sn))) (some (.i .i64 1)) (some (.i .i64 ((m:Int)+2)))=some (.l ((r++[x]).map sn)):=by rw[<-hcl];exact hls
     rw[hd]at hb hal;have afu:Gs 2 32 (some (.l [])) (some (.l ((r++[x]).map sn)))=some (.l ((r++[x]).map sn)):=by
      rw[Eo,aj]
      ·rfl
      ·exact⟨hal,by simp only[fE,kT];omega,by simp only[fE,kT];omega⟩
     have hres:yT x b (y::r)=(r++[x],if y.1=b then 0 else b):=aj (show 8<r.length+2 by omega);rw[hres];clear hres hls;generalize r++[x]=R1 at *;generalize(y::r++[x]).map sn=M2 at *;generalize(y::r).map sn=M1 at *;by_cases h7:y.1=b
     ·have h7':(y.1=b)=True:=eq_true h7;clear h7;refine au rfl rfl ?_;simp[-lD,-List.all_eq_true,-List.all_map,-Eo,e1,k1,h1,h2,TM,KW,hp,hw,hat,h3,k4,kc,hap,h6,hpos,h0,h7',afE,afu,hlt]
     ·refine au rfl rfl ?_;simp[-lD,-List.all_eq_true,-List.all_map,-Eo,e1,k1,h1,h2,TM,KW,hp,hw,hat,h3,k4,kc,hap,h6,hpos,h0,h7,afE,afu,hlt]
    ·have h6:¬(8:Int)<(m:Int)+2:=by omega
     have hcl:(((y::r++[x]).length:Nat):Int)=(m:Int)+2:=by omega
     have KW:(((y::r++[x]).map sn).length:Int)=(m:Int)+2:=by rw[fE];exact hcl
     have TM:(((y::r).map sn).length:Int)=(m:Int)+1:=by rw[fE];exact hc
     have hat:((y::r).map sn)[m]? =some (sn l):=by rw[iP,ha];rfl
     have hres:yT x b (y::r)=(y::r++[x],b):=ah (show ¬8<r.length+2 by omega);rw[hres];clear hres hls;show _=some [_,_,GV.l ((y::r++[x]).map sn),_]
     generalize(y::r++[x]).map sn=M2 at *;generalize(y::r).map sn=M1 at *;refine au rfl rfl ?_;simp[-lD,-List.all_eq_true,-List.all_map,-Eo,e1,k1,h1,h2,TM,KW,hp,hw,hat,h3,k4,kc,hap,h6,hlt]
abbrev Ms:=(Int×Int×Int×List Row)×Int
def full(l:Sn):Ms:=((5,l.1,0,l.2),0)
def wC(v:Int)(k:List Sn)(b:Int):Ms:=match k.getLast? with
 |none=>((0,0,0,[]),24)
 |some l=>if l.1=b then((0,0,0,[]),24)else match jG b k with
  |none=>full l
  |some i=>if 2<=v then match k[i]? with
    |none=>full l
    |some s=>if(oI s l).2≠0 then((0,0,0,[]),(oI s l).2)else((6,(oI s l).1.2.1,(oI s l).1.1,(oI s l).1.2.2),0)
   else full l
def Fh(r:Ms):Q1:=[.i .i64 0,.i .i64 r.1.1,.i .u64 r.1.2.1,.i .u64 r.1.2.2.1,.l (r.1.2.2.2.map row),.i .i64 r.2]
theorem Kp.add{k:List Sn}(hk:Kp k){x:Sn}{b:Int}(hx:Tb x.2)(h0:0<x.1/\x.1<18446744073709551616)(hl:∀l,k.getLast? =some l->l.1<x.1/\mX x.2 l.2=true):Kp (yT x b k).1:=by
 have hall:∀s∈k,s.1<x.1/\mX x.2 s.2=true:=by
  intro s hs;obtain⟨i,hi,rfl⟩:=List.getElem_of_mem hs;cases hg:k.getLast? with
  |none=>exact absurd hi (by rw[last_none hg];simp)
  |some l=>
   obtain⟨m,hm,ha,hmem⟩:=last_at hg;obtain⟨c1,c2⟩:=hl l hg;have hml:m<k.length:=by omega
   have afF:k[m]=l:=by have:=bK hml;rw[ha]at this;injection this with this;exact this.symm
   rcases xU i m with him|him
   ·have hp:=WS.1 hk.rise i m hi hml him;rw[afF]at hp;exact⟨by omega,akz hx.rise (hk.tb l hmem).rise (hk.tb _ (gK hi)).rise c2 hp.2⟩
   ·have:i=m:=by omega
    subst this;simp only[afF];exact⟨c1,c2⟩
 cases k with
 |nil=>exact⟨by simp[yT],by simpa[yT]using hx,by simpa[yT]using h0,by simp[yT]⟩
 |cons y r=>
  have hr:Kp r:=⟨by have:=hk.len;simp at this;omega,λs hs=>hk.tb s (by simp[hs]),λs hs=>hk.pos s (by simp[hs]),(iV.1 hk.rise).2⟩
  have h8:=hk.len;simp only[gQ]at h8;simp only[yT];split
  ·refine⟨by simp;omega,?_,?_,?_⟩
   ·intro s hs;rcases kG.1 hs with h|h
    ·exact hr.tb s h
    ·rw[uy.1 h];exact hx
   ·intro s hs;rcases kG.1 hs with h|h
    ·exact hr.pos s h
    ·rw[uy.1 h];exact h0
   ·refine List.pairwise_append.2 ⟨hr.rise,by simp,λa ha b hb=>?_⟩;rw[uy.1 hb];exact hall a (by simp[ha])
  ·refine⟨by simp;omega,?_,?_,?_⟩
   ·intro s hs;rcases kG.1 hs with h|h
    ·exact hk.tb s h
    ·rw[uy.1 h];exact hx
   ·intro s hs;rcases kG.1 hs with h|h
    ·exact hk.pos s h
    ·rw[uy.1 h];exact h0
   ·refine List.pairwise_append.2 ⟨hk.rise,by simp,λa ha b hb=>?_⟩;rw[uy.1 hb];exact hall a ha
theorem avT{x:Sn}{k:List Sn}{b:Int}(hk:Kp k)(hx:fQ x.2)(h0:0<=x.1/\x.1<18446744073709551616):Kp (uh x k b).2.1:=by
 unfold uh;split
 ·exact hk
 next h1=>
 split
 ·exact hk
 next h2=>
 have ht:Tb x.2:=hx.tb ((vU _).1 (by simpa using h1));split
 ·next hl=>exact hk.add ht ⟨by omega,h0.2⟩ λl h=>by rw[hl]at h;cases h
 ·next l hl=>
  split
  ·exact hk
  next h3=>
  split
  ·exact hk
  next h4=>exact hk.add ht ⟨by omega,h0.2⟩ λl' h=>by rw[hl]at h;injection h with h;subst h;exact⟨by omega,by simpa using h4⟩
theorem Kp.drop{k:List Sn}(hk:Kp k)(i:Nat):Kp (k.drop i):=
 ⟨by have:=hk.len;rw[eX];omega,λs hs=>hk.tb s (Nr hs),λs hs=>hk.pos s (Nr hs),hk.rise.sublist (acf i k)⟩
theorem akd{e:Int}{k:List Sn}{b:Int}(hk:Kp k):Kp (BR e k b).2.1:=by
 unfold BR;split
 ·exact hk
 split
 ·exact hk
 ·exact hk.drop _
theorem HY{g:GV}(h:(bP.int .u8).has g):∃n,g=.i .u8 n/\0<=n/\n<256:=by simp only[bP.has]at h;obtain⟨n,rfl,b1,b2⟩:=h;exact⟨n,rfl,by simpa[IntKind.min,IntKind.signed]using b1,by simp[IntKind.max,IntKind.signed,IntKind.bits]at b2;omega⟩
def ajX(xs:Q1)(k:List Sn):Prop:=∀s∈k,iE (.i .u64 s.1) xs=some (sn s)
theorem key_inj{a b:Int}{x:GV}(h1:oP (.i .u64 a) x=true)(h2:oP (.i .u64 b) x=true):a=b:=by
 cases x<;>simp[oP]at h1 h2
 omega
theorem af0(a b:Int):oP (.i .u64 a) (.i .u64 b)=decide (a=b):=by simp only[oP];rw[wU];simp
theorem yV(a b:Int)(u:GV):∀xs:Q1,iE (.i .u64 a) (lI (.i .u64 b) u xs)=if a=b then some u else iE (.i .u64 a) xs
 |[]=>by
  show(if oP (.i .u64 a) (.i .u64 b)=true then some u else none)=_
  rw[af0];by_cases h:a=b<;>simp[h,iE]
 |.g [x,v]::xs=>by
  have ih:=yV a b u xs;show iE (.i .u64 a) (if oP (.i .u64 b) x=true then .g [.i .u64 b,u]::xs else .g [x,v]::lI (.i .u64 b) u xs)=if a=b then some u else(if oP (.i .u64 a) x=true then some v else iE (.i .u64 a) xs)
  cases hb:oP (.i .u64 b) x with
  |true=>
   rw[aj rfl];show(if oP (.i .u64 a) (.i .u64 b)=true then some u else iE (.i .u64 a) xs)=_
   rw[af0];by_cases h:a=b
   ·simp[h]
   ·cases ha:oP (.i .u64 a) x with
    |true=>exact absurd (key_inj ha hb) h
    |false=>simp[h]
  |false=>
   rw[ah (by simp)];show(if oP (.i .u64 a) x=true then some v else iE (.i .u64 a) (lI (.i .u64 b) u xs))=_
   rw[ih];cases ha:oP (.i .u64 a) x with
   |true=>
    by_cases h:a=b
    ·subst h;rw[ha]at hb;cases hb
    ·simp[h]
   |false=>simp
 |.g []::xs=>yV a b u xs
 |.g [_]::xs=>yV a b u xs
 |.g (_::_::_::_)::xs=>yV a b u xs
 |.i _ _::xs=>yV a b u xs
 |.b _::xs=>yV a b u xs
 |.s _::xs=>yV a b u xs
 |.l _::xs=>yV a b u xs
structure Lead(xs:Q1)(k:List Sn)(b:Int):Prop where
 kp:Kp k
 map:ajX xs k
 base:b=0\/∃s∈k,s.1=b
def Rk(kind epoch base:Int)(t:List Row):aT:={kind:=kind,id:=0,min:=0,max:=0,chosen:=0,flags:=0,cost:=0,priority:=0,deadline:=0,retry:=0,epoch:=epoch,base:=base,digest:=0,lag:=0,code:=0,want:=0,remaining:=0,allowed:=false,name:=[],region:=[],note:=[],d:=[],t:=t}
theorem akD{kind epoch base:Int}{t:List Row}(h1: -9223372036854775808<=kind/\kind<=9223372036854775807)(h2:0<=epoch/\epoch<18446744073709551616)(h3:0<=base/\base<18446744073709551616)(ht:Rows t):sH (Rk kind epoch base t):=by refine⟨h1,?_,?_,?_,?_,?_,?_,?_,?_,?_,h2,h3,?_,?_,?_,?_,?_,?_,?_,?_,?_,ht⟩<;>simp[Rk,qJ]
theorem asM{k:List Sn}{b:Int}(hk:Kp k){l s:Sn}{i:Nat}(hlast:k.getLast? =some l)(hlb:l.1≠b)(hf:jG b k=some i)(hs:k[i]? =some s):(oI s l).2=0/\fQ (oI s l).1.2.2:=by
 obtain⟨s',hs',hsb,hi⟩:=S9 hf;rw[hs]at hs';injection hs' with hs'
 subst hs';have hmem:=aco hlast;have hsm:=rC hs;obtain⟨m,hm1,hm2,-⟩:=last_at hlast;have hml:m<k.length:=by omega
 have e1:k[m]=l:=by have:=bK hml;rw[hm2]at this;injection this with this;exact this.symm
 have e2:k[i]=s:=by have:=bK hi;rw[hs]at this;injection this with this;exact this.symm
 have him:i<m:=by
  rcases xU i m with c|c
  ·exact c
  ·have:i=m:=by omega
   subst this;rw[e1]at e2;subst e2;exact absurd hsb hlb
 have hp:=WS.1 hk.rise i m hi hml him;rw[e1,e2]at hp;have hd:(oI s l).2=0:=by rw[ao6 (hk.tb s hsm).ok (hk.tb l hmem).ok hp.1 hp.2]
 exact⟨hd,(akC (hk.tb s hsm).good (hk.tb l hmem).good hd).2.2⟩
theorem auc{v:Int}{k:List Sn}{b:Int}(hk:Kp k):(-9223372036854775808<=(wC v k b).1.1/\(wC v k b).1.1<=9223372036854775807)/\(0<=(wC v k b).1.2.1/\(wC v k b).1.2.1<18446744073709551616)/\(0<=(wC v k b).1.2.2.1/\(wC v k b).1.2.2.1<18446744073709551616)/\fQ (wC v k b).1.2.2.2:=by
 have zero:∀c:Int,(-9223372036854775808<=((((0,0,0,[]),c):Ms)).1.1/\((((0,0,0,[]),c):Ms)).1.1<=9223372036854775807)/\(0<=((((0,0,0,[]),c):Ms)).1.2.1/\((((0,0,0,[]),c):Ms)).1.2.1<18446744073709551616)/\(0<=((((0,0,0,[]),c):Ms)).1.2.2.1/\((((0,0,0,[]),c):Ms)).1.2.2.1<18446744073709551616)/\fQ ((((0,0,0,[]),c):Ms)).1.2.2.2:=λc=>⟨by simp,by simp,by simp,FQ.good⟩
 unfold wC;cases hl:k.getLast? with
 |none=>exact zero 24
 |some l=>
  have hmem:=aco hl;have hp:=hk.pos l hmem
  have hfull:(-9223372036854775808<=(full l).1.1/\(full l).1.1<=9223372036854775807)/\(0<=(full l).1.2.1/\(full l).1.2.1<18446744073709551616)/\(0<=(full l).1.2.2.1/\(full l).1.2.2.1<18446744073709551616)/\fQ (full l).1.2.2.2:=
   ⟨by simp[full],⟨by simp only[full];omega,by simp only[full];omega⟩,by simp[full],(hk.tb l hmem).good⟩
  simp only;by_cases h1:l.1=b
  ·rw[aj h1];exact zero 24
  rw[ah h1];cases hf:jG b k with
  |none=>exact hfull
  |some i=>
   obtain⟨s,hs,-,hi⟩:=S9 hf;obtain⟨hd,hg⟩:=asM hk hl h1 hf hs;simp only[hs];by_cases h2:2<=v
   ·rw[aj h2,ah (by simp[hd])];have he:=(aea hd).2.2.2.2;have hps:=hk.pos s (rC hs);refine⟨by simp,?_,?_,hg⟩
    ·simp only[he];omega
    ·simp only[he];omega
   ·rw[ah h2];exact hfull
abbrev An:=Int×Int×Int×Int
def oh(c v kd ep ba:Int)(t:List Row)(sm:Bool)(h:Sn):An×Int×Bool×Sn:=
 if c≠0 then((0,0,0,0),c,sm,h)
 else if kd=5 then(if sm=true/\ep<=h.1 then((7,h.1,0,0),20,sm,h)else((7,ep,0,0),0,true,(ep,t)))
 else if kd=6 then(if sm=true/\ep<=h.1 then((7,h.1,0,0),20,sm,h)
  else if(nS h (ba,ep,t)).2≠0 then((8,ep,IntKind.u64.wrap (nS h (ba,ep,t)).2,if 2<=v then h.1 else 0),(nS h (ba,ep,t)).2,sm,h)
  else((7,(nS h (ba,ep,t)).1.1,0,0),0,true,(nS h (ba,ep,t)).1))
 else((0,0,0,0),15,sm,h)
def wO(r:An×Int×Bool×Sn):Q1:=[.i .i64 0,.i .i64 r.1.1,.i .u64 r.1.2.1,.i .u64 r.1.2.2.1,.i .u64 r.1.2.2.2,.i .i64 r.2.1,.b r.2.2.1,.i .u64 r.2.2.2.1,.l (r.2.2.2.2.map row)]
set_option maxHeartbeats 2000000 in
theorem aAh(b:aT)(fl:List aI)(v:Int)(sm:Bool)(h:Sn)(hb:sH b)(ht:fQ b.t)(hok:dS fl)(hlen:fl.length<=1000000)(hh:fQ h.2):
 TT.lim 244 ((iq b (aG fl)).cells++[.i .i64 v,.b sm,.i .u64 h.1,.l (h.2.map row)])=some (wO (oh (jg b fl v) v b.kind b.epoch b.base b.t sm h)):=by
 have hc:=ZC b fl v hb ht.few hok hlen;have hcl:=PZ (b.epoch,b.t) ht;have hap:=aku h (b.base,b.epoch,b.t) hh ht;have e1:GV.g [.i .u64 b.epoch,.l (b.t.map row)]=sn (b.epoch,b.t):=rfl;have e2:GV.g [.i .u64 h.1,.l (h.2.map row)]=sn h:=rfl;have e3:GV.g [.i .u64 b.base,.i .u64 b.epoch,.l (b.t.map row)]=dl (b.base,b.epoch,b.t):=rfl;rw[dO];simp only[bC,aV];unfold oh;generalize nS h (b.base,b.epoch,b.t)=A at *;obtain⟨⟨A1,A2⟩,A3⟩:=A;generalize jg b fl v=C at *;generalize aG fl=R at *;by_cases h1:C=0;rotate_left
 ·rw[aj h1];refine au rfl rfl ?_;simp -implicitDefEqProofs[jW,hc,h1,wO]
 rw[ah (by simpa using h1)];subst h1;by_cases k5:b.kind=5
 ·rw[aj k5];have zu:(b.kind=5)=True:=eq_true k5;clear k5;cases sm with
  |false=>refine au rfl rfl ?_;simp -implicitDefEqProofs[jW,hc,zu,wO,e1,hcl]
  |true=>
   by_cases h3:b.epoch<=h.1
   ·refine au rfl rfl ?_;simp -implicitDefEqProofs[jW,hc,zu,wO,h3]
   ·refine au rfl rfl ?_;simp -implicitDefEqProofs[jW,hc,zu,wO,h3,e1,hcl]
 rw[ah k5];by_cases k6:b.kind=6;rotate_left
 ·rw[ah k6];refine au rfl rfl ?_;simp -implicitDefEqProofs[jW,hc,k5,k6,wO]
 rw[aj k6];have zu:(b.kind=5)=False:=eq_false k5;have Ib:(b.kind=6)=True:=eq_true k6;clear k5 k6;by_cases h3:sm=true/\b.epoch<=h.1
 ·rw[aj h3];obtain⟨rfl,h3⟩:=h3;refine au rfl rfl ?_;simp -implicitDefEqProofs[jW,hc,zu,Ib,wO,h3]
 rw[ah h3];by_cases ha:A3=0
 ·rw[ah (by simpa using ha)];subst ha;cases sm with
  |false=>refine au rfl rfl ?_;simp -implicitDefEqProofs[jW,hc,zu,Ib,wO,e2,e3,hap]
  |true=>have h3:¬b.epoch<=h.1:=λe=>h3 ⟨rfl,e⟩;refine au rfl rfl ?_;simp -implicitDefEqProofs[jW,hc,zu,Ib,wO,h3,e2,e3,hap]
 ·rw[aj ha];by_cases hv:2<=v
  ·cases sm with
   |false=>refine au rfl rfl ?_;simp -implicitDefEqProofs[jW,hc,zu,Ib,wO,e2,e3,hap,ha,hv]
   |true=>have h3:¬b.epoch<=h.1:=λe=>h3 ⟨rfl,e⟩;refine au rfl rfl ?_;simp -implicitDefEqProofs[jW,hc,zu,Ib,wO,h3,e2,e3,hap,ha,hv]
  ·cases sm with
   |false=>refine au rfl rfl ?_;simp -implicitDefEqProofs[jW,hc,zu,Ib,wO,e2,e3,hap,ha,hv]
   |true=>have h3:¬b.epoch<=h.1:=λe=>h3 ⟨rfl,e⟩;refine au rfl rfl ?_;simp -implicitDefEqProofs[jW,hc,zu,Ib,wO,h3,e2,e3,hap,ha,hv]
abbrev Tm:=Int×Int×Int×List Row
def ajQ(xs:Q1)(m:Tm):Prop:=
 (m.1=5/\Tb m.2.2.2/\(0<m.2.1/\m.2.1<18446744073709551616)/\m.2.2.1=0/\iE (.i .u64 m.2.1) xs=some (sn (m.2.1,m.2.2.2)))\/
 (m.1=6/\Tb m.2.2.2/\(0<m.2.2.1/\m.2.2.1<m.2.1/\m.2.1<18446744073709551616)/\∃s l:Sn,iE (.i .u64 m.2.2.1) xs=some (sn s)/\iE (.i .u64 m.2.1) xs=some (sn l)/\l.1=m.2.1/\s.1=m.2.2.1/\Tb l.2/\nS s (m.2.2.1,m.2.1,m.2.2.2)=(l,0))
structure JB(xs:Q1)(told:List Tm)(back:List An)(k:List Sn)(b:Int)(sm:Bool)(h:Sn):Prop where
 lead:Lead xs k b
 keys:∀e g,iE (.i .u64 e) xs=some g->∃l,k.getLast? =some l/\e<=l.1
 told:∀m∈told,ajQ xs m
 back:∀a∈back,a.1=7->sm=true/\a.2.1<=h.1
 has:(sm=true/\iE (.i .u64 h.1) xs=some (sn h)/\Tb h.2)\/(sm=false/\h=zS)
 base:b<=0\/(sm=true/\b<=h.1)
 zero:iE (.i .u64 0) xs=none
theorem JB.tb{xs:Q1}{told:List Tm}{back:List An}{k:List Sn}{b:Int}{sm:Bool}{h:Sn}(f:JB xs told back k b sm h):Tb h.2:=by
 rcases f.has with⟨-,-,h1⟩|⟨-,h1⟩
 ·exact h1
 ·rw[h1];exact FQ
theorem JB.getD{xs:Q1}{told:List Tm}{back:List An}{k:List Sn}{b:Int}{sm:Bool}{h:Sn}(f:JB xs told back k b sm h):(iE (.i .u64 h.1) xs).getD (.g [.i .u64 0,.l []])=sn h:=by
 rcases f.has with⟨-,q,-⟩|⟨-,q⟩
 ·rw[q];rfl
 ·rw[q];show(iE (.i .u64 0) xs).getD _=_
  rw[f.zero];rfl
theorem JB.no{xs:Q1}{told:List Tm}{back:List An}{k:List Sn}{b:Int}{sm:Bool}{h:Sn}(f:JB xs told back k b sm h)(e:sm=false):h=zS:=by
 rcases f.has with⟨q,-⟩|⟨-,q⟩
 ·rw[q]at e;cases e
 ·exact q
theorem ah9(sp:List fJ):L9 sp []=0:=by
 have h:jF 0 0 []=0:=by unfold jF;rfl
 unfold L9;rw[ah (by rw[h];simp),ah (by simp)]
def je(a:An):aT:={kind:=a.1,id:=0,min:=0,max:=0,chosen:=0,flags:=0,cost:=0,priority:=0,deadline:=0,retry:=0,epoch:=a.2.1,base:=0,digest:=0,lag:=0,code:=a.2.2.1,want:=a.2.2.2,remaining:=0,allowed:=false,name:=[],region:=[],note:=[],d:=[],t:=[]}
theorem Xm{a:An}(h1: -9223372036854775808<=a.1/\a.1<=9223372036854775807)(h2:0<=a.2.1/\a.2.1<18446744073709551616)(h3:0<=a.2.2.1/\a.2.2.1<18446744073709551616)(h4:0<=a.2.2.2/\a.2.2.2<18446744073709551616):sH (je a):=by refine⟨h1,?_,?_,?_,?_,?_,?_,?_,?_,?_,h2,?_,?_,?_,h3,h4,?_,?_,?_,?_,?_,?_⟩<;>simp[je,qJ,Rows]
theorem auj(V e:Int)(hV:V=1\/V=2\/V=3):(iG.all λn=>AB (bM 7 V) n ||tY (je (7,e,0,0)) n)=true:=by rcases hV with rfl|rfl|rfl<;>rfl
theorem aun(e c:Int):(iG.all λn=>AB (bM 8 1) n ||tY (je (8,e,c,0)) n)=true:=rfl
theorem ag1(V e c w:Int)(hV:V=2\/V=3):(iG.all λn=>AB (bM 8 V) n ||tY (je (8,e,c,w)) n)=true:=by rcases hV with rfl|rfl<;>rfl
theorem atr(V e:Int)(hV:V=1\/V=2\/V=3):pV (je (7,e,0,0)) (bM 7 V)=0:=by rcases hV with rfl|rfl|rfl<;>rfl
theorem atu(V e c w:Int)(hV:V=1\/V=2\/V=3):pV (je (8,e,c,w)) (bM 8 V)=0:=by
 have hu:pq [] 0 256=0:=rfl;have h1:AX (je (8,e,c,w)) zC=0:=rfl;have h2:AX (je (8,e,c,w)) zB=0:=rfl;have h3:AX (je (8,e,c,w)) AZ=0:=rfl;have h4:AX (je (8,e,c,w)) Dn=pq [] 0 256:=rfl;have k1:bM 8 1=[⟨1,0,1,zC⟩,⟨2,0,1,zB⟩]:=rfl;have k2:bM 8 2=[⟨1,0,1,zC⟩,⟨2,0,1,zB⟩,⟨3,0,2,AZ⟩]:=rfl;have k3:bM 8 3=[⟨1,0,1,zC⟩,⟨2,0,1,zB⟩,⟨3,0,2,AZ⟩,⟨4,3,3,Dn⟩]:=rfl;rcases hV with rfl|rfl|rfl
 ·rw[k1];simp only[pV,h1,h2,if_true]
 ·rw[k2];simp only[pV,h1,h2,h3,if_true]
 ·rw[k3];simp only[pV,h1,h2,h3,h4,hu,if_true]
theorem RX(e:Int){V:Int}(h1:1<=V)(h3:V<=3):jg (je (7,e,0,0)) [] V=0:=by
 have hV:V=1\/V=2\/V=3:=by omega
 unfold jg;have hk:bM (je (7,e,0,0)).kind V≠[]:=(by rcases hV with rfl|rfl|rfl<;>decide:bM 7 V≠[])
 have hn:(iG.all λn=>AB (bM (je (7,e,0,0)).kind V) n ||tY (je (7,e,0,0)) n)=true:=auj V e hV;have hy:pV (je (7,e,0,0)) (bM (je (7,e,0,0)).kind V)=0:=atr V e hV;have hb:Gy (je (7,e,0,0))=0:=rfl;rw[ah (by omega),ah (by omega),ah hk,ah (by rw[hn];simp),ah (by rw[hy];simp),ah (by rw[hb];simp)];exact ah9 _
theorem ali(e c w:Int){V:Int}(h1:1<=V)(h3:V<=3)(hw:¬2<=V->w=0):jg (je (8,e,c,w)) [] V=0:=by
 have hV:V=1\/V=2\/V=3:=by omega
 unfold jg;have hk:bM (je (8,e,c,w)).kind V≠[]:=(by rcases hV with rfl|rfl|rfl<;>decide:bM 8 V≠[])
 have hn:(iG.all λn=>AB (bM (je (8,e,c,w)).kind V) n ||tY (je (8,e,c,w)) n)=true:=by
  rcases hV with rfl|rfl|rfl
  ·rw[hw (by omega)];exact aun e c
  ·exact ag1 2 e c w (.inl rfl)
  ·exact ag1 3 e c w (.inr rfl)
 have hy:pV (je (8,e,c,w)) (bM (je (8,e,c,w)).kind V)=0:=atu V e c w hV;have hb:Gy (je (8,e,c,w))=0:=rfl;rw[ah (by omega),ah (by omega),ah hk,ah (by rw[hn];simp),ah (by rw[hy];simp),ah (by rw[hb];simp)];exact ah9 _
structure Rec(v:Int)(sm:Bool)(h:Sn):Prop where
 lo:1<=v
 hi:v<=3
 good:fQ h.2
 ep:0<=h.1/\h.1<18446744073709551616
 no:sm=false->h=zS
theorem ah4{v:Int}{sm:Bool}{h:Sn}(r:Rec v sm h)(c kd ep ba:Int)(t:List Row)(ht:fQ t)(he:0<=ep/\ep<18446744073709551616):
 Rec v (oh c v kd ep ba t sm h).2.2.1 (oh c v kd ep ba t sm h).2.2.2/\sH (je (oh c v kd ep ba t sm h).1)/\((oh c v kd ep ba t sm h).1.1=0\/((oh c v kd ep ba t sm h).1.1≠0/\jg (je (oh c v kd ep ba t sm h).1) [] v=0)):=by
 have r1:=r.lo;have r2:=r.hi;have z:sH (je (0,0,0,0)):=Xm (by decide) (by decide) (by decide) (by decide);have ak:∀e:Int,0<=e/\e<18446744073709551616->sH (je (7,e,0,0)):=λe h=>Xm (by simp) h (by simp) (by simp);unfold oh;split
 ·exact⟨r,z,.inl rfl⟩
 split
 ·split
  ·exact⟨r,ak _ r.ep,.inr ⟨by simp,RX _ r1 r2⟩⟩
  ·exact⟨⟨r1,r2,ht,he,λe=>by cases e⟩,ak _ he,.inr ⟨by simp,RX _ r1 r2⟩⟩
 split
 ·split
  ·exact⟨r,ak _ r.ep,.inr ⟨by simp,RX _ r1 r2⟩⟩
  split
  ·refine⟨r,Xm (by simp) he (wrap_u64 _) ?_,.inr ⟨by simp,ali _ _ _ r1 r2 λhn=>ah hn⟩⟩;simp only;split
   ·exact r.ep
   ·simp
  ·next ha=>
   have ha:(nS h (ba,ep,t)).2=0:=by simpa using ha
   have h1:=(acX ha).2.2.2.2;have h2:=(akw r.good ht ha).1.good;have h3:0<=(nS h (ba,ep,t)).1.1/\(nS h (ba,ep,t)).1.1<18446744073709551616:=by rw[h1];exact he
   exact⟨⟨r1,r2,h2,h3,λe=>by cases e⟩,ak _ h3,.inr ⟨by simp,RX _ r1 r2⟩⟩
 ·exact⟨r,z,.inl rfl⟩
