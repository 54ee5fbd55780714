/- What the trees compute: plain laws. -/
import Derived.Test.YtilkjidelblkfaaGreatDoorKMe1
namespace Go.Proofs.YtilkjidelblkfaaGreatDoor
open Go Go.aJ
set_option linter.unusedSimpArgs false
set_option linter.unusedVariables false
set_option maxRecDepth 100000
namespace M
/-- A text that stands next: the text, how many bytes it took, the code. -/
def dV (s:List UInt8):List UInt8×Nat×Int:=
 if (ay s).2.2≠0 then ([],0,(ay s).2.2) else
 if s.length - (ay s).2.1 < (ay s).1 then ([],0,1) else
 ((s.drop (ay s).2.1).take (ay s).1,(ay s).2.1+(ay s).1,0)
theorem SH {s:List UInt8} (h:(dV s).2.2=0):1<=(dV s).2.1/\(dV s).2.1<=s.length/\(dV s).1.length<=s.length:=by
 unfold dV at h ⊢;by_cases h1:(ay s).2.2=0;rotate_left
 ·rw [aj h1] at h
  exact absurd h h1
 rw [ah (λe=>e h1)] at h ⊢;obtain ⟨v1,v2,v3,v4,v5⟩:=jM h1;by_cases h2:s.length - (ay s).2.1 < (ay s).1
 ·rw [aj h2] at h;cases h
 rw [ah h2];simp only [mM,eH];omega
theorem afL (t:List UInt8) (at':Nat) (h:at'<=t.length) (ht:t.length<=100000000) :
 ∃at2:Nat,TT.lim 144 [.s t,.i .i64 at']=some [.i .i64 0,.s (dV (t.drop at')).1,.i .i64 (dV (t.drop at')).2.2,.s t,.i .i64 at2]/\((dV (t.drop at')).2.2=0->at2=at'+(dV (t.drop at')).2.1):=by
 have k1:=zM t at' h (by omega);unfold dV;by_cases he:(ay (t.drop at')).2.2=0;rotate_left
 ·obtain ⟨e1,e2⟩:=Gs he
  rw [e1,e2] at k1;rw [aj he];generalize (ay (t.drop at')).2.2=e at *;refine ⟨at',aB rfl rfl ?_,λh=>absurd h he⟩;simp -implicitDefEqProofs [k1,he]
 obtain ⟨v1,v2,v3,v4,_⟩:=jM he;rw [ah (λe=>e he)];rw [he] at k1;rw [eH] at v3 ⊢;rw [qX];generalize (ay (t.drop at')).1=n at *;generalize (ay (t.drop at')).2.1=i at *;have w1:=wrap64 (n:=(t.length:Int) - ((at':Int)+(i:Int))) (by omega) (by omega);have w2:=jJ (n:=(t.length:Int) - ((at':Int)+(i:Int))) (by omega) (by omega);simp only [Ce] at k1;by_cases c1:t.length - at' - i < n
 ·have c1':(t.length:Int) - ((at':Int)+(i:Int)) < (n:Int):=by omega
  rw [aj c1];refine ⟨at'+i,aB rfl rfl ?_,λh=>by cases h⟩;simp -implicitDefEqProofs [k1,w1,w2,c1']
 ·have c1':¬ (t.length:Int) - ((at':Int)+(i:Int)) < (n:Int):=by omega
  rw [ah c1];have w3:=wrap64 (n:=(n:Int)) (by omega) (by omega);have w4:=wrap64 (n:=(at':Int)+(i:Int)+(n:Int)) (by omega) (by omega);have ts:((t.take (at'+i+n)).drop (at'+i))=(t.drop (at'+i)).take n:=by
   rw [GU];congr 1;omega
  have c2:(at':Int)+(i:Int)<=(at':Int)+(i:Int)+(n:Int)/\(at':Int)+(i:Int)+(n:Int)<=t.length:=by omega
  have c3:(0:Int)<=(at':Int)+(i:Int):=by omega
  have t1:((at':Int)+(i:Int)+(n:Int)).toNat=at'+i+n:=by omega
  have t2:((at':Int)+(i:Int)).toNat=at'+i:=by omega
  generalize (t.drop (at'+i)).take n=X at *;refine ⟨at'+i+n,aB rfl rfl ?_,λ_=>by simp only;omega⟩;simp -implicitDefEqProofs [k1,w1,w2,w3,w4,c1',c2,c3,t1,t2,ts]
/-- An entry that stands next. -/
def dD (s:List UInt8):dM×Nat×Int:=
 if (dV s).2.2≠0 then (([],[]),0,(dV s).2.2) else
 if (dV (s.drop (dV s).2.1)).2.2≠0 then (([],[]),0,(dV (s.drop (dV s).2.1)).2.2) else
 if uI ((dV s).1,(dV (s.drop (dV s).2.1)).1)≠0 then (([],[]),0,uI ((dV s).1,(dV (s.drop (dV s).2.1)).1)) else
 (((dV s).1,(dV (s.drop (dV s).2.1)).1),(dV s).2.1+(dV (s.drop (dV s).2.1)).2.1,0)
theorem O9 {s:List UInt8} (h:(dD s).2.2=0):2<=(dD s).2.1/\(dD s).2.1<=s.length/\uI (dD s).1=0/\(dD s).1.1.length<=s.length/\(dD s).1.2.length<=s.length/\
 (dV s).2.2=0/\(dV (s.drop (dV s).2.1)).2.2=0/\(dD s).1=((dV s).1,(dV (s.drop (dV s).2.1)).1)/\(dD s).2.1=(dV s).2.1+(dV (s.drop (dV s).2.1)).2.1:=by
 unfold dD at h ⊢;by_cases h1:(dV s).2.2=0;rotate_left
 ·rw [aj h1] at h;exact absurd h h1
 rw [ah (λe=>e h1)] at h ⊢;by_cases h2:(dV (s.drop (dV s).2.1)).2.2=0;rotate_left
 ·rw [aj h2] at h;exact absurd h h2
 rw [ah (λe=>e h2)] at h ⊢;by_cases h3:uI ((dV s).1,(dV (s.drop (dV s).2.1)).1)=0;rotate_left
 ·rw [aj h3] at h;exact absurd h h3
 rw [ah (λe=>e h3)];obtain ⟨a1,a2,a3⟩:=SH h1;obtain ⟨b1,b2,b3⟩:=SH h2;rw [eH] at b2 b3;exact ⟨by simp only;omega,by simp only;omega,h3,a3,by simp only;omega,h1,h2,rfl,rfl⟩
theorem ajP (t:List UInt8) (at':Nat) (h:at'<=t.length) (ht:t.length<=100000000) :
 ∃at2:Nat,TT.lim 143 [.s t,.i .i64 at']=some [.i .i64 0,.s (dD (t.drop at')).1.1,.s (dD (t.drop at')).1.2,.i .i64 (dD (t.drop at')).2.2,.s t,.i .i64 at2]/\((dD (t.drop at')).2.2=0->at2=at'+(dD (t.drop at')).2.1):=by
 obtain ⟨p,k1,e1⟩:=afL t at' h ht;unfold dD;by_cases h1:(dV (t.drop at')).2.2=0;rotate_left
 ·rw [aj h1]
  generalize dV (t.drop at')=A at *;refine ⟨p,aB rfl rfl ?_,λh=>absurd h h1⟩;simp -implicitDefEqProofs [k1,h1]
 have e1:=e1 h1;obtain ⟨a1,a2,a3⟩:=SH h1;rw [eH] at a2 a3;have hdd:(t.drop at').drop (dV (t.drop at')).2.1=t.drop p:=by rw [qX,e1]
 obtain ⟨q,k2,e2⟩:=afL t p (by omega) ht;rw [ah (λe=>e h1),hdd];rw [h1] at k1;by_cases h2:(dV (t.drop p)).2.2=0;rotate_left
 ·rw [aj h2]
  generalize dV (t.drop at')=A at *;generalize dV (t.drop p)=B at *;refine ⟨q,aB rfl rfl ?_,λh=>absurd h h2⟩;simp -implicitDefEqProofs [k1,k2,h2]
 have e2:=e2 h2;obtain ⟨b1,b2,b3⟩:=SH h2;rw [eH] at b2 b3;rw [ah (λe=>e h2)];rw [h2] at k2;have kc:=abr ((dV (t.drop at')).1,(dV (t.drop p)).1) (by simp only;omega) (by simp only;omega);have V7:TT.lim 29 [.g [.s (dV (t.drop at')).1,.s (dV (t.drop p)).1]]=_:=kc;generalize dV (t.drop at')=A at *;generalize dV (t.drop p)=B at *;by_cases h3:uI (A.1,B.1)=0;rotate_left
 ·rw [aj h3]
  refine ⟨q,aB rfl rfl ?_,λh=>absurd h h3⟩;generalize uI (A.1,B.1)=E at *;simp -implicitDefEqProofs [k1,k2,V7,h3]
 ·rw [ah (λe=>e h3)]
  rw [h3] at V7;refine ⟨q,aB rfl rfl ?_,λ_=>by simp only;omega⟩;simp -implicitDefEqProofs [k1,k2,V7]
def yR (p:Option dM) (x:dM):Int:=match p with
 | none=>0
 | some k=>yQ k.1 x.1
/-- Entries by rising keys: what is read, how many bytes it took, the code. -/
def fC:Nat->Option dM->List UInt8->List dM×Nat×Int
 | 0,_,_=>([],0,0)
 | m+1,p,s=>if (dD s).2.2≠0 then ([],0,(dD s).2.2) else
   if yR p (dD s).1≠0 then ([],0,yR p (dD s).1) else
   if (fC m (some (dD s).1) (s.drop (dD s).2.1)).2.2≠0 then ([],0,(fC m (some (dD s).1) (s.drop (dD s).2.1)).2.2) else
   ((dD s).1::(fC m (some (dD s).1) (s.drop (dD s).2.1)).1,(dD s).2.1+(fC m (some (dD s).1) (s.drop (dD s).2.1)).2.1,0)
theorem UQ (m:Nat) (p:Option dM) (s:List UInt8):fC (m+1) p s=if (dD s).2.2≠0 then ([],0,(dD s).2.2) else
 if yR p (dD s).1≠0 then ([],0,yR p (dD s).1) else
 if (fC m (some (dD s).1) (s.drop (dD s).2.1)).2.2≠0 then ([],0,(fC m (some (dD s).1) (s.drop (dD s).2.1)).2.2) else
 ((dD s).1::(fC m (some (dD s).1) (s.drop (dD s).2.1)).1,(dD s).2.1+(fC m (some (dD s).1) (s.drop (dD s).2.1)).2.1,0):=rfl
def zA (acc:List dM) (t:List UInt8) (at2:Nat) (r:List dM×Nat×Int):List GV:=if r.2.2≠0 then [.i .i64 0,.i .i64 r.2.2,.s t,.i .i64 at2] else [.i .i64 1,.l ((acc++r.1).map ent),.s t,.i .i64 at2]
theorem ajM (L:List GV) (n i at' at2:Int) (t:List UInt8) (x:dM) (e:Int) (h:i < n) (he:¬ e=0)
 (k:TT.lim 143 [.s t,.i .i64 at']=some [.i .i64 0,.s x.1,.s x.2,.i .i64 e,.s t,.i .i64 at2]) :
 TT.lim 142 [.l L,.i .i64 n,.i .i64 i,.s t,.i .i64 at']=some [.i .i64 0,.i .i64 e,.s t,.i .i64 at2]:=by
 refine aB rfl rfl ?_;simp -implicitDefEqProofs [h,k,he]
theorem ajK (L:List GV) (n at' at2:Int) (t:List UInt8) (x:dM) (R:List GV) (h:0 < n) (hb:2 * (L.length+1) * 32<=281474976710656/\L.length+1<=281474976710656)
 (k:TT.lim 143 [.s t,.i .i64 at']=some [.i .i64 0,.s x.1,.s x.2,.i .i64 0,.s t,.i .i64 at2])
 (ih:TT.lim 142 [.l (L++[ent x]),.i .i64 n,.i .i64 1,.s t,.i .i64 at2]=some R) :
 TT.lim 142 [.l L,.i .i64 n,.i .i64 0,.s t,.i .i64 at']=some R:=by
 have he:GV.g [.s x.1,.s x.2]=ent x:=rfl;have w1:=wrap64 (n:=1) (by omega) (by omega);refine aB rfl rfl ?_;simp -implicitDefEqProofs [h,k,he,GV.fA,hb,w1,ih]
theorem ajL (L:List GV) (n:Int) (i:Nat) (at' at2:Int) (t:List UInt8) (p x:dM) (h:(i:Int)+1 < n) (hi:i+1<=100000000) (hl:L.length=i+1) (hg:L[i]? = some (ent p)) (hb:¬ yQ p.1 x.1=0)
 (k:TT.lim 143 [.s t,.i .i64 at']=some [.i .i64 0,.s x.1,.s x.2,.i .i64 0,.s t,.i .i64 at2]) :
 TT.lim 142 [.l L,.i .i64 n,.i .i64 ((i:Int)+1),.s t,.i .i64 at']=some [.i .i64 0,.i .i64 (yQ p.1 x.1),.s t,.i .i64 at2]:=by
 have h0:(0:Int) < (i:Int)+1:=by omega
 have hii:(i:Int) < (i:Int)+1:=by omega
 have w:=wrap64 (n:=(i:Int)) (by omega) (by omega);have hgi:L[i]'(by omega)=ent p:=by have:=hg;rw [bM (by omega)] at this;exact Ea this
 unfold yQ at hb ⊢;by_cases e1:x.1=p.1
 ·have e1':(x.1=p.1)=True:=eq_true e1
  clear e1;refine aB rfl rfl ?_;simp -implicitDefEqProofs [h,k,h0,hii,w,hl,hg,hgi,e1']
 ·by_cases e2:Op.bytesLess x.1 p.1=true
  ·refine aB rfl rfl ?_
   simp -implicitDefEqProofs [h,k,h0,hii,w,hl,hg,hgi,e1,e2]
  ·simp -implicitDefEqProofs [e1,e2] at hb
theorem ajN (L:List GV) (n:Int) (i:Nat) (at' at2:Int) (t:List UInt8) (p x:dM) (R:List GV) (h:(i:Int)+1 < n) (hi:i+1<=100000000) (hl:(i:Int) < L.length) (hl2:L.length<=100000000) (hg:L[i]? = some (ent p)) (hb:yQ p.1 x.1=0)
 (k:TT.lim 143 [.s t,.i .i64 at']=some [.i .i64 0,.s x.1,.s x.2,.i .i64 0,.s t,.i .i64 at2])
 (ih:TT.lim 142 [.l (L++[ent x]),.i .i64 n,.i .i64 ((i:Int)+1+1),.s t,.i .i64 at2]=some R) :
 TT.lim 142 [.l L,.i .i64 n,.i .i64 ((i:Int)+1),.s t,.i .i64 at']=some R:=by
 have h0:(0:Int) < (i:Int)+1:=by omega
 have hii:(i:Int) < (i:Int)+1:=by omega
 have w:=wrap64 (n:=(i:Int)) (by omega) (by omega);have w2:=wrap64 (n:=(i:Int)+1+1) (by omega) (by omega);have hl3:i < L.length:=by omega
 have hgi:L[i]=ent p:=by have:=hg;rw [bM hl3] at this;exact Ea this
 have he:GV.g [.s x.1,.s x.2]=ent x:=rfl;have hbb:2 * (L.length+1) * 32<=281474976710656/\L.length+1<=281474976710656:=by omega
 unfold yQ at hb;have e1:¬ x.1=p.1:=by intro e;rw [aj e] at hb;exact absurd hb (by decide)
 rw [ah e1] at hb;have e2:¬ Op.bytesLess x.1 p.1=true:=by intro e;rw [aj e] at hb;exact absurd hb (by decide)
 have e2:Op.bytesLess x.1 p.1=false:=by simpa using e2
 refine aB rfl rfl ?_;simp -implicitDefEqProofs [h,k,h0,hii,w,w2,hl,hl3,hg,hgi,e1,e2,he,GV.fA,hbb,ih]
/-- What is ahead. -/
def amC (acc:List dM) (p:Option dM):Prop:=(acc=[]/\p=none)\/∃a x,acc=a++[x]/\p=some x
theorem abe (t:List UInt8) (ht:t.length<=100000000) (n:Nat) (hn:n<=1000):∀ (m:Nat) (acc:List dM) (p:Option dM) (at':Nat),acc.length+m=n->amC acc p->at'<=t.length->
 ∃at2:Nat,TT.lim 142 [.l (acc.map ent),.i .i64 n,.i .i64 acc.length,.s t,.i .i64 at']=some (zA acc t at2 (fC m p (t.drop at')))/\((fC m p (t.drop at')).2.2=0->at2=at'+(fC m p (t.drop at')).2.1)
 | 0,acc,p,at',hi,hp,h=>by
   have hlt:¬ ((acc.length:Int) < (n:Int)):=by omega
   refine ⟨at', ?_,λ_=>by simp [fC]⟩;have hl:(acc.map ent).length=acc.length:=by simp
   unfold fC zA;simp only [ne_eq,not_true_eq_false,if_false,pI];generalize acc.map ent=L at *;refine aB rfl rfl ?_;simp -implicitDefEqProofs [hlt]
 | m+1,acc,p,at',hi,hp,h=>by
   obtain ⟨at2,k,e2⟩:=ajP t at' h ht;rw [UQ];by_cases h1:(dD (t.drop at')).2.2=0;rotate_left
   ·rw [aj h1]
    refine ⟨at2, ?_,λh=>absurd h h1⟩;have:zA acc t at2 ([],0,(dD (t.drop at')).2.2)=[.i .i64 0,.i .i64 (dD (t.drop at')).2.2,.s t,.i .i64 at2]:=by unfold zA;rw [aj h1]
    rw [this];exact ajM _ _ _ _ _ _ _ _ (by omega) h1 k
   rw [ah (λe=>e h1)];rw [h1] at k;have e2:=e2 h1;obtain ⟨a1,a2,_⟩:=O9 h1;rw [eH] at a2;have hdd:(t.drop at').drop (dD (t.drop at')).2.1=t.drop at2:=by rw [qX,e2]
   rw [hdd];have hat:at2<=t.length:=by omega
   generalize hX:(dD (t.drop at')).1=x at *;obtain ⟨at3,ih,e3⟩:=abe t ht n hn m (acc++[x]) (some x) at2 (by rw [fG,Cj];omega) (.inr ⟨acc,x,rfl,rfl⟩) hat;have hout:zA acc t at3 (if (fC m (some x) (t.drop at2)).2.2≠0 then ([],0,(fC m (some x) (t.drop at2)).2.2) else (x::(fC m (some x) (t.drop at2)).1,(dD (t.drop at')).2.1+(fC m (some x) (t.drop at2)).2.1,0))=zA (acc++[x]) t at3 (fC m (some x) (t.drop at2)):=by
    unfold zA;by_cases hq:(fC m (some x) (t.drop at2)).2.2=0
    ·simp -implicitDefEqProofs [hq]
    ·simp -implicitDefEqProofs [hq]
   have hfin:((if (fC m (some x) (t.drop at2)).2.2≠0 then (([]:List dM),0,(fC m (some x) (t.drop at2)).2.2) else (x::(fC m (some x) (t.drop at2)).1,(dD (t.drop at')).2.1+(fC m (some x) (t.drop at2)).2.1,0)).2.2=0->at3=at'+(if (fC m (some x) (t.drop at2)).2.2≠0 then (([]:List dM),0,(fC m (some x) (t.drop at2)).2.2) else (x::(fC m (some x) (t.drop at2)).1,(dD (t.drop at')).2.1+(fC m (some x) (t.drop at2)).2.1,0)).2.1):=by
    by_cases hq:(fC m (some x) (t.drop at2)).2.2=0
    ·rw [ah (λe=>e hq)]
     intro _;have:=e3 hq;simp only;omega
    ·rw [aj hq]
     intro h;exact absurd h hq
   rw [mQ] at ih;rcases hp with ⟨rfl,rfl⟩ | ⟨a,y,rfl,rfl⟩
   ·have hb0:yR none x=0:=rfl
    rw [hb0,ah (by simp)];refine ⟨at3, ?_,hfin⟩;rw [hout];exact ajK [] n at' at2 t x _ (by simp at hi;omega) (by simp) k ih
   ·by_cases hb:yQ y.1 x.1=0
    rotate_left
    ·have hb':yR (some y) x≠0:=hb
     rw [aj hb'];refine ⟨at2, ?_,λh=>absurd h hb⟩;have:zA (a++[y]) t at2 ([],0,yR (some y) x)=[.i .i64 0,.i .i64 (yQ y.1 x.1),.s t,.i .i64 at2]:=by unfold zA;rw [aj hb'];rfl
     rw [this];have hl:((a++[y]).length:Int)=(a.length:Int)+1:=by simp
     rw [hl];rw [fG,Cj] at hi;exact ajL _ n a.length at' at2 t y x (by omega) (by omega) (by simp) (by simp) hb k
    ·have hb':¬ yR (some y) x≠0:=λe=>e hb
     rw [ah hb'];refine ⟨at3, ?_,hfin⟩;rw [hout];have hl:((a++[y]).length:Int)=(a.length:Int)+1:=by simp
     have hl2:((a++[y]++[x]).length:Int)=(a.length:Int)+1+1:=by simp;omega
     rw [hl];rw [hl2] at ih;rw [fG,Cj] at hi;exact ajN _ n a.length at' at2 t y x _ (by omega) (by omega) (by simp;omega) (by simp;omega) (by simp) hb k ih
def yZ (e:Int):List dM×Nat×Int:=([],0,e)
/-- A descriptor that stands next. -/
def l7 (s:List UInt8):List dM×Nat×Int:=
 if (ay s).2.2≠0 then yZ (ay s).2.2 else
 if (ay s).1=0 then yZ 12 else
 if 16 < (ay s).1 then yZ 13 else
 if (fC (ay s).1 none (s.drop (ay s).2.1)).2.2≠0 then yZ (fC (ay s).1 none (s.drop (ay s).2.1)).2.2 else
 ((fC (ay s).1 none (s.drop (ay s).2.1)).1,(ay s).2.1+(fC (ay s).1 none (s.drop (ay s).2.1)).2.1,0)
theorem ajH (t:List UInt8) (at':Nat) (h:at'<=t.length) (ht:t.length<=100000000) :
 ∃at2:Nat,TT.lim 141 [.s t,.i .i64 at']=some [.i .i64 0,.l ((l7 (t.drop at')).1.map ent),.i .i64 (l7 (t.drop at')).2.2,.s t,.i .i64 at2]/\((l7 (t.drop at')).2.2=0->at2=at'+(l7 (t.drop at')).2.1):=by
 have k1:=zM t at' h (by omega);unfold l7;by_cases he:(ay (t.drop at')).2.2=0;rotate_left
 ·obtain ⟨e1,e2⟩:=Gs he
  rw [e1,e2] at k1;rw [aj he];generalize (ay (t.drop at')).2.2=e at *;refine ⟨at',aB rfl rfl ?_,λh=>absurd h he⟩;simp -implicitDefEqProofs [k1,he,yZ]
 obtain ⟨v1,v2,v3,v4,_⟩:=jM he;rw [ah (λe=>e he)];rw [he] at k1;rw [eH] at v3;rw [qX];by_cases h16:16 < (ay (t.drop at')).1
 ·have h0:¬ (ay (t.drop at')).1=0:=by omega
  have AQ:(16:Int) < ((ay (t.drop at')).1:Nat):=by omega
  rw [ah h0,aj h16];generalize (ay (t.drop at')).1=n at *;generalize (ay (t.drop at')).2.1=i at *;refine ⟨at'+i,aB rfl rfl ?_,λh=>by cases h⟩;simp only [Ce] at k1;simp -implicitDefEqProofs [k1,h0,h16,AQ,yZ]
 obtain ⟨at2,k2,e2⟩:=abe t ht (ay (t.drop at')).1 (by omega) (ay (t.drop at')).1 [] none (at'+(ay (t.drop at')).2.1) (by simp) (.inl ⟨rfl,rfl⟩) (by omega);generalize (ay (t.drop at')).1=n at *;generalize (ay (t.drop at')).2.1=i at *;by_cases h0:n=0
 ·rw [aj h0]
  have h0':((n:Int)=0)=True:=eq_true (by omega);refine ⟨at'+i,aB rfl rfl ?_,λh=>by cases h⟩;simp only [Ce] at k1;simp -implicitDefEqProofs [k1,h0,h0',yZ]
 rw [ah h0,ah h16];have AQ:¬ (16:Int) < (n:Int):=by omega
 have w:=wrap64 (n:=(n:Int)) (by omega) (by omega);have hc:(0:Int)<=(n:Int)/\32 * (n:Int)<=281474976710656/\(n:Int)<=1152921504606846976:=by omega
 have k2':TT.lim 142 [.l [],.i .i64 n,.i .i64 0,.s t,.i .i64 ((at':Int)+(i:Int))]=_:=k2;generalize hdl:fC n none (t.drop (at'+i))=r at *;refine ⟨at2,aB rfl rfl ?_,λh=>?_⟩
 ·simp only [Ce] at k1
  unfold zA at k2';by_cases hq:r.2.2=0
  ·simp only [hq,ne_eq,not_true_eq_false,if_false,bn] at k2' ⊢
   simp -implicitDefEqProofs [k1,h0,h16,AQ,w,hc,k2',GV.fA]
  ·simp only [hq,ne_eq,not_false_eq_true,if_true] at k2' ⊢
   simp -implicitDefEqProofs [k1,h0,h16,AQ,w,hc,k2',GV.fA,yZ]
 ·by_cases hq:r.2.2=0
  ·rw [ah (λe=>e hq)]
   have:=e2 hq;simp only;omega
  ·rw [aj hq] at h
   exact absurd h hq
/-- A whole text, as a descriptor. -/
def qF (s:List UInt8):List dM×Int:=
 if (l7 s).2.2≠0 then ([],(l7 s).2.2) else if (l7 s).2.1 < s.length then ([],10) else ((l7 s).1,0)
theorem UO:∀ (m:Nat) (p:Option dM) (s:List UInt8),(fC m p s).2.2=0->(fC m p s).2.1<=s.length/\(fC m p s).1.length=m/\∀x∈(fC m p s).1,uI x=0/\x.1.length<=s.length/\x.2.length<=s.length
 | 0,p,s,_=>by simp [fC]
 | m+1,p,s,h=>by
   rw [UQ] at h ⊢;by_cases h1:(dD s).2.2=0;rotate_left
   ·rw [aj h1] at h;exact absurd h h1
   rw [ah (λe=>e h1)] at h ⊢;by_cases h2:yR p (dD s).1=0;rotate_left
   ·rw [aj h2] at h;exact absurd h h2
   rw [ah (λe=>e h2)] at h ⊢;by_cases h3:(fC m (some (dD s).1) (s.drop (dD s).2.1)).2.2=0;rotate_left
   ·rw [aj h3] at h;exact absurd h h3
   rw [ah (λe=>e h3)];obtain ⟨a1,a2,a3,a4,a5,_⟩:=O9 h1;obtain ⟨b1,b2,b3⟩:=UO m (some (dD s).1) _ h3;rw [eH] at b1;refine ⟨by simp only;omega,by simp [b2],λx hx=>?_⟩;rcases bC.1 hx with rfl | hx
   ·exact ⟨a3,a4,a5⟩
   ·obtain ⟨c1,c2,c3⟩:=b3 x hx
    rw [eH] at c2 c3;exact ⟨c1,by omega,by omega⟩
theorem abg {s:List UInt8} (h:(l7 s).2.2=0):(ay s).2.2=0/\0 < (ay s).1/\(ay s).1<=16/\(fC (ay s).1 none (s.drop (ay s).2.1)).2.2=0/\(l7 s).1=(fC (ay s).1 none (s.drop (ay s).2.1)).1/\
 (l7 s).2.1=(ay s).2.1+(fC (ay s).1 none (s.drop (ay s).2.1)).2.1/\(l7 s).2.1<=s.length:=by
 unfold l7 at h ⊢;by_cases h1:(ay s).2.2=0;rotate_left
 ·rw [aj h1] at h;exact absurd h h1
 rw [ah (λe=>e h1)] at h ⊢;by_cases h2:(ay s).1=0
 ·rw [aj h2] at h;exact absurd h (by simp [yZ])
 rw [ah h2] at h ⊢;by_cases h3:16 < (ay s).1
 ·rw [aj h3] at h;exact absurd h (by simp [yZ])
 rw [ah h3] at h ⊢;by_cases h4:(fC (ay s).1 none (s.drop (ay s).2.1)).2.2=0;rotate_left
 ·rw [aj h4] at h;exact absurd h h4
 rw [ah (λe=>e h4)];obtain ⟨v1,v2,v3,_,_⟩:=jM h1;obtain ⟨d1,_,_⟩:=UO _ _ _ h4;rw [eH] at d1;exact ⟨h1,by omega,by omega,h4,rfl,rfl,by simp only;omega⟩
theorem abh (s:List UInt8) (hs:s.length<=100000000):TT.lim 140 [.s s]=some [.l ((qF s).1.map ent),.i .i64 (qF s).2]:=by
 obtain ⟨at2,k,e2⟩:=ajH s 0 (by omega) hs;rw [dO,show ((0:Nat):Int)=0 from rfl] at k;rw [dO] at e2;unfold qF;by_cases h1:(l7 s).2.2=0;rotate_left
 ·rw [aj h1]
  generalize l7 s=r at *;refine aQ rfl rfl ?_ (by rfl);simp -implicitDefEqProofs [k,h1]
 have e2:=e2 h1;obtain ⟨_,_,_,_,_,_,a7⟩:=abg h1;rw [ah (λe=>e h1)];rw [h1] at k;rw [jk] at e2;have w:=wrap64 (n:=(s.length:Int) - (at2:Int)) (by omega) (by omega);rw [<- e2] at a7 ⊢;generalize l7 s=r at *;by_cases h2:at2 < s.length
 ·rw [aj h2]
  refine aQ rfl rfl ?_ rfl;simp -implicitDefEqProofs [k,w,h2]
 ·rw [ah h2]
  refine aQ rfl rfl ?_ rfl;simp -implicitDefEqProofs [k,w,h2]
def FZ (e:Int):Row×Nat×Int:=(([],0),0,e)
/-- The row of a key, whose number stands next. -/
def gu (key s:List UInt8):Row×Nat×Int:=
 if (qF key).2≠0 then FZ (qF key).2 else
 if (ay s).2.2≠0 then FZ (ay s).2.2 else
 if (ay s).1=0 then FZ 17 else (((qF key).1,((ay s).1:Nat)),(ay s).2.1,0)
theorem X6 {key s:List UInt8} (h:(gu key s).2.2=0):(qF key).2=0/\(ay s).2.2=0/\(ay s).1≠0/\(gu key s).1=((qF key).1,(((ay s).1:Nat):Int))/\(gu key s).2.1=(ay s).2.1:=by
 unfold gu at h ⊢;by_cases h1:(qF key).2=0;rotate_left
 ·rw [aj h1] at h;exact absurd h h1
 rw [ah (λe=>e h1)] at h ⊢;by_cases h2:(ay s).2.2=0;rotate_left
 ·rw [aj h2] at h;exact absurd h h2
 rw [ah (λe=>e h2)] at h ⊢;by_cases h3:(ay s).1=0
 ·rw [aj h3] at h;exact absurd h (by simp [FZ])
 rw [ah h3];exact ⟨h1,h2,h3,rfl,rfl⟩
theorem rowP (key t:List UInt8) (at':Nat) (h:at'<=t.length) (ht:t.length<=100000000) (hk:key.length<=100000000) :
 ∃at2:Nat,TT.lim 149 [.s key,.s t,.i .i64 at']=some [.i .i64 0,.l ((gu key (t.drop at')).1.1.map ent),.i .u64 (gu key (t.drop at')).1.2,.i .i64 (gu key (t.drop at')).2.2,.s t,.i .i64 at2]/\
  ((gu key (t.drop at')).2.2=0->at2=at'+(gu key (t.drop at')).2.1):=by
 have k1:=abh key hk;have k2:=zM t at' h (by omega);unfold gu;generalize qF key=D at *;by_cases h1:D.2=0;rotate_left
 ·rw [aj h1]
  refine ⟨at',aB rfl rfl ?_,λh=>absurd h h1⟩;simp -implicitDefEqProofs [k1,h1,FZ]
 rw [ah (λe=>e h1)];by_cases h2:(ay (t.drop at')).2.2=0;rotate_left
 ·obtain ⟨e1,e2⟩:=Gs h2
  rw [e1,e2] at k2;rw [aj h2];generalize ay (t.drop at')=V at *;refine ⟨at',aB rfl rfl ?_,λh=>absurd h h2⟩;simp -implicitDefEqProofs [k1,k2,h1,h2,FZ]
 rw [ah (λe=>e h2)];rw [h2] at k2;simp only [Ce] at k2;generalize ay (t.drop at')=V at *;by_cases h3:V.1=0
 ·rw [aj h3]
  rw [h3] at k2;refine ⟨at'+V.2.1,aB rfl rfl ?_,λh=>by cases h⟩;simp -implicitDefEqProofs [k1,k2,h1,FZ]
 ·rw [ah h3]
  refine ⟨at'+V.2.1,aB rfl rfl ?_,λ_=>rfl⟩;simp -implicitDefEqProofs [k1,k2,h1,h3]
/-- Rows, one behind the other. -/
def gJ:Nat->List UInt8->Bool->List UInt8->List Row×Nat×Int
 | 0,_,_,_=>([],0,0)
 | m+1,a,first,s=>if (bg s a first).2.2≠0 then ([],0,(bg s a first).2.2) else
   if (gu (bg s a first).1 (s.drop (bg s a first).2.1)).2.2≠0 then ([],0,(gu (bg s a first).1 (s.drop (bg s a first).2.1)).2.2) else
   if (gJ m (bg s a first).1 false (s.drop ((bg s a first).2.1+(gu (bg s a first).1 (s.drop (bg s a first).2.1)).2.1))).2.2≠0 then ([],0,(gJ m (bg s a first).1 false (s.drop ((bg s a first).2.1+(gu (bg s a first).1 (s.drop (bg s a first).2.1)).2.1))).2.2) else
   ((gu (bg s a first).1 (s.drop (bg s a first).2.1)).1::(gJ m (bg s a first).1 false (s.drop ((bg s a first).2.1+(gu (bg s a first).1 (s.drop (bg s a first).2.1)).2.1))).1,
    (bg s a first).2.1+(gu (bg s a first).1 (s.drop (bg s a first).2.1)).2.1+(gJ m (bg s a first).1 false (s.drop ((bg s a first).2.1+(gu (bg s a first).1 (s.drop (bg s a first).2.1)).2.1))).2.1,0)
theorem XV (m:Nat) (a:List UInt8) (first:Bool) (s:List UInt8):gJ (m+1) a first s=if (bg s a first).2.2≠0 then ([],0,(bg s a first).2.2) else
 if (gu (bg s a first).1 (s.drop (bg s a first).2.1)).2.2≠0 then ([],0,(gu (bg s a first).1 (s.drop (bg s a first).2.1)).2.2) else
 if (gJ m (bg s a first).1 false (s.drop ((bg s a first).2.1+(gu (bg s a first).1 (s.drop (bg s a first).2.1)).2.1))).2.2≠0 then ([],0,(gJ m (bg s a first).1 false (s.drop ((bg s a first).2.1+(gu (bg s a first).1 (s.drop (bg s a first).2.1)).2.1))).2.2) else
 ((gu (bg s a first).1 (s.drop (bg s a first).2.1)).1::(gJ m (bg s a first).1 false (s.drop ((bg s a first).2.1+(gu (bg s a first).1 (s.drop (bg s a first).2.1)).2.1))).1,
  (bg s a first).2.1+(gu (bg s a first).1 (s.drop (bg s a first).2.1)).2.1+(gJ m (bg s a first).1 false (s.drop ((bg s a first).2.1+(gu (bg s a first).1 (s.drop (bg s a first).2.1)).2.1))).2.1,0):=rfl
def zC (acc:List Row) (t:List UInt8) (at2:Nat) (r:List Row×Nat×Int):List GV:=if r.2.2≠0 then [.i .i64 0,.i .i64 r.2.2,.s t,.i .i64 at2] else [.i .i64 1,.l ((acc++r.1).map row),.s t,.i .i64 at2]
theorem ao7 (L:List GV) (a t X:List UInt8) (n i at' at2:Int) (first:Bool) (e:Int) (h:i < n) (hf:decide (i=0)=first) (he:¬ e=0)
 (k:TT.lim 148 [.s t,.i .i64 at',.s a,.b first]=some [.i .i64 0,.s X,.i .i64 e,.s t,.i .i64 at2]) :
 TT.lim 147 [.l L,.s a,.i .i64 n,.i .i64 i,.s t,.i .i64 at']=some [.i .i64 0,.i .i64 e,.s t,.i .i64 at2]:=by
 refine aB rfl rfl ?_;simp -implicitDefEqProofs [h,hf,k,he]
theorem ao9 (L:List GV) (a t X:List UInt8) (D:List GV) (N:Int) (n i at' at2 at3:Int) (first:Bool) (e:Int) (h:i < n) (hf:decide (i=0)=first) (he:¬ e=0)
 (k:TT.lim 148 [.s t,.i .i64 at',.s a,.b first]=some [.i .i64 0,.s X,.i .i64 0,.s t,.i .i64 at2])
 (k2:TT.lim 149 [.s X,.s t,.i .i64 at2]=some [.i .i64 0,.l D,.i .u64 N,.i .i64 e,.s t,.i .i64 at3]) :
 TT.lim 147 [.l L,.s a,.i .i64 n,.i .i64 i,.s t,.i .i64 at']=some [.i .i64 0,.i .i64 e,.s t,.i .i64 at3]:=by
 refine aB rfl rfl ?_;simp -implicitDefEqProofs [h,hf,k,k2,he]
theorem ao8 (L:List GV) (a t X:List UInt8) (D:List GV) (N:Int) (n i at' at2 at3:Int) (first:Bool) (R:List GV) (h:i < n) (hf:decide (i=0)=first) (hw:IntKind.i64.wrap (i+1)=i+1) (hb:L.length<=100000000)
 (k:TT.lim 148 [.s t,.i .i64 at',.s a,.b first]=some [.i .i64 0,.s X,.i .i64 0,.s t,.i .i64 at2])
 (k2:TT.lim 149 [.s X,.s t,.i .i64 at2]=some [.i .i64 0,.l D,.i .u64 N,.i .i64 0,.s t,.i .i64 at3])
 (ih:TT.lim 147 [.l (L++[.g [.l D,.i .u64 N]]),.s X,.i .i64 n,.i .i64 (i+1),.s t,.i .i64 at3]=some R) :
 TT.lim 147 [.l L,.s a,.i .i64 n,.i .i64 i,.s t,.i .i64 at']=some R:=by
 have hbb:2 * (L.length+1) * 32<=281474976710656/\L.length+1<=281474976710656:=by omega
 refine aB rfl rfl ?_;simp -implicitDefEqProofs [h,hf,k,k2,hw,GV.fA,hbb,ih]
theorem aeE (t:List UInt8) (ht:t.length<=100000000) (n:Nat) (hn:n<=1000):∀ (m:Nat) (acc:List Row) (a:List UInt8) (at':Nat),acc.length+m=n->at'<=t.length->a.length<=at'->
 ∃at2:Nat,TT.lim 147 [.l (acc.map row),.s a,.i .i64 n,.i .i64 acc.length,.s t,.i .i64 at']=some (zC acc t at2 (gJ m a (decide ((acc.length:Int)=0)) (t.drop at')))/\
  ((gJ m a (decide ((acc.length:Int)=0)) (t.drop at')).2.2=0->at2=at'+(gJ m a (decide ((acc.length:Int)=0)) (t.drop at')).2.1)
 | 0,acc,a,at',hi,h,ha=>by
   have hlt:¬ ((acc.length:Int) < (n:Int)):=by omega
   refine ⟨at', ?_,λ_=>by simp [gJ]⟩;unfold gJ zC;simp only [ne_eq,not_true_eq_false,if_false,pI];generalize acc.map row=L at *;refine aB rfl rfl ?_;simp -implicitDefEqProofs [hlt]
 | m+1,acc,a,at',hi,h,ha=>by
   obtain ⟨at2,k,e2⟩:=ao3 t a (decide ((acc.length:Int)=0)) at' h ht (by omega);rw [XV];generalize hf:decide ((acc.length:Int)=0)=first at *
   by_cases h1:(bg (t.drop at') a first).2.2=0;rotate_left
   ·rw [aj h1]
    refine ⟨at2, ?_,λh=>absurd h h1⟩;have:zC acc t at2 ([],0,(bg (t.drop at') a first).2.2)=[.i .i64 0,.i .i64 (bg (t.drop at') a first).2.2,.s t,.i .i64 at2]:=by unfold zC;rw [aj h1]
    rw [this];exact ao7 _ _ _ _ _ _ _ _ _ _ (by omega) hf h1 k
   rw [ah (λe=>e h1)];rw [h1] at k;have e2:=e2 h1;obtain ⟨a1,a2,a3⟩:=XW h1;rw [eH] at a2;have hdd:∀j,(t.drop at').drop ((bg (t.drop at') a first).2.1+j)=t.drop (at2+j):=by intro j;rw [qX,e2,jv]
   have aln:(t.drop at').drop (bg (t.drop at') a first).2.1=t.drop at2:=by rw [qX,e2]
   have hal:(bg (t.drop at') a first).1.length<=at2:=by split at a3<;>omega
   rw [hdd,aln];generalize (bg (t.drop at') a first).1=X at *;generalize (bg (t.drop at') a first).2.1=j1 at *;obtain ⟨at3,k2,e3⟩:=rowP X t at2 (by omega) ht (by omega);by_cases h2:(gu X (t.drop at2)).2.2=0;rotate_left
   ·rw [aj h2]
    refine ⟨at3, ?_,λh=>absurd h h2⟩;have:zC acc t at3 ([],0,(gu X (t.drop at2)).2.2)=[.i .i64 0,.i .i64 (gu X (t.drop at2)).2.2,.s t,.i .i64 at3]:=by unfold zC;rw [aj h2]
    rw [this];exact ao9 _ _ _ _ _ _ _ _ _ _ _ _ _ (by omega) hf h2 k k2
   rw [ah (λe=>e h2)];rw [h2] at k2;have e3:=e3 h2;obtain ⟨_,q2,_,_,q5⟩:=X6 h2;obtain ⟨v1,v2,v3,_,_⟩:=jM q2;rw [eH] at v3;have e3':at2+(gu X (t.drop at2)).2.1=at3:=e3.symm;rw [e3'];have hrow:GV.g [.l ((gu X (t.drop at2)).1.1.map ent),.i .u64 (gu X (t.drop at2)).1.2]=row (gu X (t.drop at2)).1:=rfl;obtain ⟨at4,ih,e4⟩:=aeE t ht n hn m (acc++[(gu X (t.drop at2)).1]) X at3 (by rw [fG,Cj];omega) (by omega) (by omega);have hfalse:decide (((acc++[(gu X (t.drop at2)).1]).length:Int)=0)=false:=by simp;omega
   have hl:((acc++[(gu X (t.drop at2)).1]).length:Int)=(acc.length:Int)+1:=by simp
   rw [hfalse] at ih e4;rw [hl,mQ] at ih;generalize (gu X (t.drop at2)).1=Q at *;generalize (gu X (t.drop at2)).2.1=j2 at *;have hout:zC acc t at4 (if (gJ m X false (t.drop at3)).2.2≠0 then ([],0,(gJ m X false (t.drop at3)).2.2) else (Q::(gJ m X false (t.drop at3)).1,j1+j2+(gJ m X false (t.drop at3)).2.1,0))=zC (acc++[Q]) t at4 (gJ m X false (t.drop at3)):=by
    unfold zC;by_cases hq:(gJ m X false (t.drop at3)).2.2=0
    ·simp -implicitDefEqProofs [hq]
    ·simp -implicitDefEqProofs [hq]
   refine ⟨at4, ?_, ?_⟩
   ·rw [hout]
    exact ao8 _ _ _ _ _ _ _ _ _ _ _ _ _ (by omega) hf (wrap64 (by omega) (by omega)) (by simp;omega) k k2 (by rw [hrow];exact ih)
   ·by_cases hq:(gJ m X false (t.drop at3)).2.2=0
    ·rw [ah (λe=>e hq)]
     intro _;have:=e4 hq;simp only;omega
    ·rw [aj hq]
     intro h;exact absurd h hq
def ET (e:Int):List Row×Nat×Int:=([],0,e)
/-- A table that stands next. -/
def lK (s:List UInt8):List Row×Nat×Int:=
 if (ay s).2.2≠0 then ET (ay s).2.2 else
 if 256 < (ay s).1 then ET 13 else
 if (gJ (ay s).1 [] true (s.drop (ay s).2.1)).2.2≠0 then ET (gJ (ay s).1 [] true (s.drop (ay s).2.1)).2.2 else
 ((gJ (ay s).1 [] true (s.drop (ay s).2.1)).1,(ay s).2.1+(gJ (ay s).1 [] true (s.drop (ay s).2.1)).2.1,0)
theorem ams (t:List UInt8) (at':Nat) (h:at'<=t.length) (ht:t.length<=100000000) :
 ∃at2:Nat,TT.lim 146 [.s t,.i .i64 at']=some [.i .i64 0,.l ((lK (t.drop at')).1.map row),.i .i64 (lK (t.drop at')).2.2,.s t,.i .i64 at2]/\((lK (t.drop at')).2.2=0->at2=at'+(lK (t.drop at')).2.1):=by
 have k1:=zM t at' h (by omega);unfold lK;by_cases he:(ay (t.drop at')).2.2=0;rotate_left
 ·obtain ⟨e1,e2⟩:=Gs he
  rw [e1,e2] at k1;rw [aj he];generalize (ay (t.drop at')).2.2=e at *;refine ⟨at',aB rfl rfl ?_,λh=>absurd h he⟩;simp -implicitDefEqProofs [k1,he,ET]
 obtain ⟨v1,v2,v3,v4,_⟩:=jM he;rw [ah (λe=>e he)];rw [he] at k1;rw [eH] at v3;rw [qX];by_cases h16:256 < (ay (t.drop at')).1
 ·have AQ:(256:Int) < ((ay (t.drop at')).1:Nat):=by omega
  rw [aj h16];generalize (ay (t.drop at')).1=n at *;generalize (ay (t.drop at')).2.1=i at *;refine ⟨at'+i,aB rfl rfl ?_,λh=>by cases h⟩;simp only [Ce] at k1;simp -implicitDefEqProofs [k1,h16,AQ,ET]
 obtain ⟨at2,k2,e2⟩:=aeE t ht (ay (t.drop at')).1 (by omega) (ay (t.drop at')).1 [] [] (at'+(ay (t.drop at')).2.1) (by simp) (by omega) (by simp);generalize (ay (t.drop at')).1=n at *;generalize (ay (t.drop at')).2.1=i at *;rw [ah h16];have AQ:¬ (256:Int) < (n:Int):=by omega
 have w:=wrap64 (n:=(n:Int)) (by omega) (by omega);have hc:(0:Int)<=(n:Int)/\32 * (n:Int)<=281474976710656/\(n:Int)<=1152921504606846976:=by omega
 rw [show decide ((([]:List Row).length:Int)=0)=true from rfl] at k2 e2;have k2':TT.lim 147 [.l [],.s [],.i .i64 n,.i .i64 0,.s t,.i .i64 ((at':Int)+(i:Int))]=_:=k2;generalize gJ n [] true (t.drop (at'+i))=r at *;refine ⟨at2,aB rfl rfl ?_,λh=>?_⟩
 ·simp only [Ce] at k1
  unfold zC at k2';by_cases hq:r.2.2=0
  ·simp only [hq,ne_eq,not_true_eq_false,if_false,bn] at k2' ⊢
   simp -implicitDefEqProofs [k1,h16,AQ,w,hc,k2',GV.fA]
  ·simp only [hq,ne_eq,not_false_eq_true,if_true] at k2' ⊢
   simp -implicitDefEqProofs [k1,h16,AQ,w,hc,k2',GV.fA,ET]
 ·by_cases hq:r.2.2=0
  ·rw [ah (λe=>e hq)]
   have:=e2 hq;simp only;omega
  ·rw [aj hq] at h
   exact absurd h hq
/-- A whole text, as a table. -/
def qR (s:List UInt8):List Row×Int:=
 if (lK s).2.2≠0 then ([],(lK s).2.2) else if (lK s).2.1 < s.length then ([],10) else ((lK s).1,0)
theorem XU:∀ (m:Nat) (a:List UInt8) (first:Bool) (s:List UInt8),(gJ m a first s).2.2=0->(gJ m a first s).2.1<=s.length/\(gJ m a first s).1.length=m
 | 0,a,first,s,_=>by simp [gJ]
 | m+1,a,first,s,h=>by
   rw [XV] at h ⊢;by_cases h1:(bg s a first).2.2=0;rotate_left
   ·rw [aj h1] at h;exact absurd h h1
   rw [ah (λe=>e h1)] at h ⊢;by_cases h2:(gu (bg s a first).1 (s.drop (bg s a first).2.1)).2.2=0;rotate_left
   ·rw [aj h2] at h;exact absurd h h2
   rw [ah (λe=>e h2)] at h ⊢;by_cases h3:(gJ m (bg s a first).1 false (s.drop ((bg s a first).2.1+(gu (bg s a first).1 (s.drop (bg s a first).2.1)).2.1))).2.2=0;rotate_left
   ·rw [aj h3] at h;exact absurd h h3
   rw [ah (λe=>e h3)];obtain ⟨a1,a2,_⟩:=XW h1;obtain ⟨_,q2,_,_,q5⟩:=X6 h2;obtain ⟨v1,v2,v3,_,_⟩:=jM q2;rw [eH] at v3;obtain ⟨b1,b2⟩:=XU m _ _ _ h3;rw [eH] at b1;exact ⟨by simp only;omega,by simp [b2]⟩
theorem acN {s:List UInt8} (h:(lK s).2.2=0):(ay s).2.2=0/\(ay s).1<=256/\(gJ (ay s).1 [] true (s.drop (ay s).2.1)).2.2=0/\(lK s).1=(gJ (ay s).1 [] true (s.drop (ay s).2.1)).1/\
 (lK s).2.1=(ay s).2.1+(gJ (ay s).1 [] true (s.drop (ay s).2.1)).2.1/\(lK s).2.1<=s.length:=by
 unfold lK at h ⊢;by_cases h1:(ay s).2.2=0;rotate_left
 ·rw [aj h1] at h;exact absurd h h1
 rw [ah (λe=>e h1)] at h ⊢;by_cases h3:256 < (ay s).1
 ·rw [aj h3] at h;exact absurd h (by simp [ET])
 rw [ah h3] at h ⊢;by_cases h4:(gJ (ay s).1 [] true (s.drop (ay s).2.1)).2.2=0;rotate_left
 ·rw [aj h4] at h;exact absurd h h4
 rw [ah (λe=>e h4)];obtain ⟨v1,v2,v3,_,_⟩:=jM h1;obtain ⟨d1,_⟩:=XU _ _ _ _ h4;rw [eH] at d1;exact ⟨h1,by omega,h4,rfl,rfl,by simp only;omega⟩
theorem asF (s:List UInt8) (hs:s.length<=100000000):TT.lim 145 [.s s]=some [.l ((qR s).1.map row),.i .i64 (qR s).2]:=by
 obtain ⟨at2,k,e2⟩:=ams s 0 (by omega) hs;rw [dO,show ((0:Nat):Int)=0 from rfl] at k;rw [dO] at e2;unfold qR;by_cases h1:(lK s).2.2=0;rotate_left
 ·rw [aj h1]
  generalize lK s=r at *;refine aQ rfl rfl ?_ (by rfl);simp -implicitDefEqProofs [k,h1]
 have e2:=e2 h1;obtain ⟨_,_,_,_,_,a7⟩:=acN h1;rw [ah (λe=>e h1)];rw [h1] at k;rw [jk] at e2;have w:=wrap64 (n:=(s.length:Int) - (at2:Int)) (by omega) (by omega);rw [<- e2] at a7 ⊢;generalize lK s=r at *;by_cases h2:at2 < s.length
 ·rw [aj h2]
  refine aQ rfl rfl ?_ rfl;simp -implicitDefEqProofs [k,w,h2]
 ·rw [ah h2]
  refine aQ rfl rfl ?_ rfl;simp -implicitDefEqProofs [k,w,h2]
def wB:List UInt8->List Row->List UInt8
 | _,[]=>[]
 | a,r::t=>zy a (dN r.1)++(bG r.2.toNat++wB (dN r.1) t)
/-- A table, as it is written. -/
def xg (t:List Row):List UInt8:=bG t.length++wB [] t
def MF (t:List Row):List UInt8×Int:=if lD t≠0 then ([],lD t) else (xg t,0)
theorem Yd:∀ (t:List Row) (a:List UInt8),(∀r∈t,iq r.1=true/\0<=r.2/\r.2 < 18446744073709551616)->(wB a t).length<=40000 * t.length
 | [],a,_=>by simp [wB]
 | r::t,a,h=>by
   obtain ⟨h1,h2,h3⟩:=h r (by simp);have hk:=V9 h1;have ho:=ad1 a (dN r.1) (by omega);have hv:=lS (n:=r.2.toNat) (by omega);have ih:=Yd t (dN r.1) λq hq=>h q (by simp [hq]);simp only [wB,fG,jK];omega
theorem amy (L:List GV) (n i:Int) (D:List dM) (N:Int) (a k O V acc:List UInt8) (R:List GV) (j:Nat) (hi:i=j) (h:i < n) (hg:L[j]? = some (row (D,N))) (hw:IntKind.i64.wrap (i+1)=i+1) (k1:TT.lim 14 [.l (D.map ent)]=some [.s k]) (k2:TT.lim 100 [.s a,.s k]=some [.s O])
 (k3:TT.lim 15 [.i .u64 N]=some [.s V]) (hb1:2 * (acc.length+O.length)<=281474976710656/\acc.length+O.length<=281474976710656) (hb2:2 * (acc.length+(O.length+V.length))<=281474976710656/\acc.length+(O.length+V.length)<=281474976710656)
 (ih:TT.lim 99 [.s k,.l L,.i .i64 n,.i .i64 (i+1),.l (eU acc++(eU O++eU V))]=some R) :
 TT.lim 99 [.s a,.l L,.i .i64 n,.i .i64 i,.l (eU acc)]=some R:=by
 subst hi;have ok1:=Kv O;have ok2:=Kv V;refine aB rfl rfl ?_;simp -implicitDefEqProofs [-List.all_eq_true,h,hg,hw,k1,k2,k3,ok1,ok2,hb1,hb2,jv,ih]
theorem acV (l:List Row) (hl:l.length<=1000) (hf:∀r∈l,iq r.1=true/\0<=r.2/\r.2 < 18446744073709551616):∀ (m i:Nat) (a acc:List UInt8),i+m=l.length->a.length<=100000->acc.length<=10+40000 * i->
 TT.lim 99 [.s a,.l (l.map row),.i .i64 l.length,.i .i64 i,.l (eU acc)]=some [.i .i64 0,.l (eU (acc++wB a (l.drop i)))]
 | 0,i,a,acc,hi,ha,hacc=>by
   have hd:l.drop i=[]:=fJ (by omega);have h:¬ ((i:Int) < l.length):=by omega
   rw [hd];refine aB rfl rfl ?_;simp -implicitDefEqProofs [h,wB]
 | m+1,i,a,acc,hi,ha,hacc=>by
   have hlt:i < l.length:=by omega
   obtain ⟨h1,h2,h3⟩:=hf l[i] (gU hlt);have hk:=V9 h1;have k1:=AY l[i].1 h1;have k2:=aof a (dN l[i].1) (by omega) (by omega);have ho:=ad1 a (dN l[i].1) (by omega);have k3:=xk l[i].2.toNat (by omega);rw [show ((l[i].2.toNat:Nat):Int)=l[i].2 by omega] at k3;have hv:=lS (n:=l[i].2.toNat) (by omega);have ih:=acV l hl hf m (i+1) (dN l[i].1) (acc++(zy a (dN l[i].1)++bG l[i].2.toNat)) (by omega) (by omega) (by simp only [fG];omega);have he:acc++wB a (l.drop i)=acc++(zy a (dN l[i].1)++bG l[i].2.toNat)++wB (dN l[i].1) (l.drop (i+1)):=by
    rw [iC hlt];simp [wB]
   rw [he];rw [Uo acc,Uo] at ih;rw [show ((i+1:Nat):Int)=(i:Int)+1 by omega] at ih;exact amy _ _ _ l[i].1 l[i].2 a _ _ _ acc _ i rfl (by omega) (by simp [hlt]) (wrap64 (by omega) (by omega)) k1 k2 k3 (by omega) (by omega) ih
theorem amx (t:List Row) (ht:Rows t) (hf:vG t):TT.lim 98 [.l (t.map row)]=some [.s (MF t).1,.i .i64 (MF t).2]:=by
 have k1:=OQ t ht hf;unfold MF;by_cases hc:lD t=0;rotate_left
 ·rw [aj hc]
  refine aQ rfl rfl ?_ (by rfl);simp -implicitDefEqProofs [k1,hc]
 rw [ah (λe=>e hc)];rw [hc] at k1;have h256:=((uD t).1 hc).1;have Lm:∀r∈t,iq r.1=true/\0<=r.2/\r.2 < 18446744073709551616:=λr hr=>⟨hf r hr,(ht.2 r hr).2.1,(ht.2 r hr).2.2⟩
 have k2:=xk t.length (by omega);have l2:=lS (n:=t.length) (by omega);have k3:=acV t (by omega) Lm t.length 0 [] (bG t.length) (by omega) (by simp) (by omega);rw [dO,show ((0:Nat):Int)=0 from rfl] at k3;have hlen:=Yd t [] Lm;have w:=jJ (n:=(t.length:Int)) (by omega) (by omega);have ok:=Kv (bG t.length);have hb:2 * (bG t.length).length<=281474976710656/\(bG t.length).length<=281474976710656:=by omega
 have hbg:=Us (xg t);have hpl:(eU (xg t)).length<=281474976710656:=by
  rw [aaw];unfold xg;rw [fG];omega
 have hk3:TT.lim 99 [.s [],.l (t.map row),.i .i64 t.length,.i .i64 0,.l (eU (bG t.length))]=some [.i .i64 0,.l (eU (xg t))]:=k3;generalize eU (xg t)=PG at *;generalize xg t=P at *;generalize hVG:eU (bG t.length)=VG at *;have hvl:VG.length=(bG t.length).length:=by rw [<- hVG,aaw]
 rw [<- hvl] at hb;have hlm:(t.map row).length=t.length:=by simp
 generalize t.map row=L at *;refine aQ rfl rfl ?_ rfl;simp -implicitDefEqProofs [-List.all_eq_true,k1,hlm,w,k2,hVG,ok,hb,hk3,hbg,hpl]
theorem abp {x:dM} (h:uI x=0):x.1.length<=64/\x.2.length<=256:=by
 have hu:∀ (s:List UInt8) (lo hi:Int),nM s lo hi=0->(s.length:Int)<=hi:=by
  intro s lo hi h;unfold nM at h;split at h
  ·cases h
  ·split at h
   ·cases h
   ·omega
 unfold uI at h;by_cases h1:nM x.1 1 64=0
 ·rw [ah (λe=>e h1)] at h
  have a:=hu _ _ _ h1;have b:=hu _ _ _ h;omega
 ·rw [aj h1] at h;exact absurd h h1
theorem afN {s:List UInt8} (h:(dV s).2.2=0):bG (dV s).1.length++(dV s).1=s.take (dV s).2.1:=by
 unfold dV at h ⊢;by_cases h1:(ay s).2.2=0;rotate_left
 ·rw [aj h1] at h;exact absurd h h1
 rw [ah (λe=>e h1)] at h ⊢;obtain ⟨v1,v2,v3,v4,v5⟩:=jM h1;by_cases h2:s.length - (ay s).2.1 < (ay s).1
 ·rw [aj h2] at h;cases h
 rw [ah h2];simp only [mM,eH];rw [JR (by omega),v5,zY]
theorem ajO {s:List UInt8} (h:(dD s).2.2=0):kK (dD s).1=s.take (dD s).2.1:=by
 obtain ⟨_,_,_,_,_,h1,h2,h3,h4⟩:=O9 h;rw [h3,h4];unfold kK;simp only;have p1:=afN h1;have p2:=afN h2;rw [p1,List.append_assoc,p2,zY]
theorem abf:∀ (m:Nat) (p:Option dM) (s:List UInt8),(fC m p s).2.2=0->(fC m p s).1.flatMap kK=s.take (fC m p s).2.1/\uF (p.map (·.1)) (fC m p s).1=0
 | 0,p,s,_=>by simp [fC,uF]
 | m+1,p,s,h=>by
   rw [UQ] at h ⊢;by_cases h1:(dD s).2.2=0;rotate_left
   ·rw [aj h1] at h;exact absurd h h1
   rw [ah (λe=>e h1)] at h ⊢;by_cases h2:yR p (dD s).1=0;rotate_left
   ·rw [aj h2] at h;exact absurd h h2
   rw [ah (λe=>e h2)] at h ⊢;by_cases h3:(fC m (some (dD s).1) (s.drop (dD s).2.1)).2.2=0;rotate_left
   ·rw [aj h3] at h;exact absurd h h3
   rw [ah (λe=>e h3)];obtain ⟨b1,b2⟩:=abf m (some (dD s).1) _ h3;obtain ⟨_,_,a3,_⟩:=O9 h1;have p1:=ajO h1;refine ⟨by simp only [ji,b1,p1,zY], ?_⟩;unfold uF;rw [ah (λe=>e a3)];cases p with
   | none=>exact b2
   | some k=>
     have h2':yQ k.1 (dD s).1.1=0:=h2;unfold yQ at h2';simp only [fK];by_cases c1:(dD s).1.1=k.1
     ·rw [aj c1] at h2';exact absurd h2' (by decide)
     rw [ah c1] at h2' ⊢;by_cases c2:Op.bytesLess (dD s).1.1 k.1=true
     ·rw [aj c2] at h2';exact absurd h2' (by decide)
     rw [ah c2];exact b2
structure Za (d:List dM) (key:List UInt8):Prop where
 chk:xQ d=0
 few:iq d=true
 ents:pG d
 put:dN d=key
theorem ajI {s:List UInt8} (h:(l7 s).2.2=0) (hs:s.length<=100000000):Za (l7 s).1 (s.take (l7 s).2.1):=by
 obtain ⟨a1,a2,a3,a4,a5,a6,a7⟩:=abg h;obtain ⟨b1,b2,b3⟩:=UO _ _ _ a4;obtain ⟨c1,c2⟩:=abf _ _ _ a4;obtain ⟨v1,v2,v3,v4,v5⟩:=jM a1;rw [a5,a6];refine ⟨?_, ?_,⟨by omega,λx hx=>?_⟩, ?_⟩
 ·unfold xQ
  rw [ah (by omega),ah (by omega)];exact c2
 ·unfold iq
  rw [aI,decide_eq_true_iff,List.all_eq_true];refine ⟨λx hx=>?_,by omega⟩;obtain ⟨e1,e2⟩:=abp (b3 x hx).1;unfold rH;rw [decide_eq_true_iff];omega
 ·obtain ⟨e1,e2⟩:=abp (b3 x hx).1
  omega
 ·unfold dN
  rw [b2,v5,c1,zY]
theorem abj {s:List UInt8} (h:(qF s).2=0) (hs:s.length<=100000000):Za (qF s).1 s:=by
 unfold qF at h ⊢;by_cases h1:(l7 s).2.2=0;rotate_left
 ·rw [aj h1] at h;exact absurd h h1
 rw [ah (λe=>e h1)] at h ⊢;by_cases h2:(l7 s).2.1 < s.length
 ·rw [aj h2] at h;exact absurd h (by simp)
 rw [ah h2];have:=ajI h1 hs;rw [lu (by omega)] at this;exact this
theorem ao4 {s a:List UInt8} {first:Bool} (h:(bg s a first).2.2=0) (hf:first=true->a=[]):zy a (bg s a first).1=s.take (bg s a first).2.1/\(first=false->a < (bg s a first).1):=by
 have ha:(if first=true then [] else a)=a:=by
  cases first with
  | true=>rw [aj rfl,hf rfl]
  | false=>rfl
 unfold bg at h ⊢;simp only [ha] at h ⊢;by_cases h1:(ay s).2.2=0;rotate_left
 ·rw [aj h1] at h;exact absurd h h1
 rw [ah (λe=>e h1)] at h ⊢;by_cases h2:a.length < (ay s).1
 ·rw [aj h2] at h;exact absurd h (by simp [kT])
 rw [ah h2] at h ⊢;by_cases h3:(ay (s.drop (ay s).2.1)).2.2=0;rotate_left
 ·rw [aj h3] at h;exact absurd h h3
 rw [ah (λe=>e h3)] at h ⊢;by_cases h4:s.length - ((ay s).2.1+(ay (s.drop (ay s).2.1)).2.1) < (ay (s.drop (ay s).2.1)).1
 ·rw [aj h4] at h;exact absurd h (by simp [kT])
 rw [ah h4] at h ⊢;obtain ⟨v1,v2,v3,v4,v5⟩:=jM h1;obtain ⟨u1,u2,u3,u4,u5⟩:=jM h3;have hx:((s.drop ((ay s).2.1+(ay (s.drop (ay s).2.1)).2.1)).take (ay (s.drop (ay s).2.1)).1).length=(ay (s.drop (ay s).2.1)).1:=by
  rw [mM,eH];omega
 generalize hX:(s.drop ((ay s).2.1+(ay (s.drop (ay s).2.1)).2.1)).take (ay (s.drop (ay s).2.1)).1=X at *;by_cases h5:first=false/\Op.bytesLess a (a.take (ay s).1++X)=false
 ·rw [aj h5] at h;exact absurd h (by simp [kT])
 rw [ah h5] at h ⊢;by_cases h6:(ay s).1 < common a (a.take (ay s).1++X)
 ·rw [aj h6] at h;exact absurd h (by simp [kT])
 rw [ah h6];have hge:=aaW (ay s).1 a X (by omega);have hc:common a (a.take (ay s).1++X)=(ay s).1:=by omega
 refine ⟨?_,λhf=>?_⟩
 ·unfold zy
  simp only [hc];have hl:(a.take (ay s).1++X).length - (ay s).1=(ay (s.drop (ay s).2.1)).1:=by
   rw [fG,mM,hx];omega
  have hd:(a.take (ay s).1++X).drop (ay s).1=X:=by
   rw [Tv (by rw [mM];omega)];rw [fJ (by rw [mM];omega)];rfl
  rw [hl,hd,v5,u5,<- hX];rw [zY,zY,<- qX]
 ·simp only [hf,true_and] at h5
  rw [<- Kt];simpa using h5
theorem aeF:∀ (m:Nat) (a:List UInt8) (first:Bool) (s:List UInt8),(gJ m a first s).2.2=0->(first=true->a=[])->a.length+s.length<=100000000->
 wB a (gJ m a first s).1=s.take (gJ m a first s).2.1/\jl (gJ m a first s).1/\(first=false->∀r∈(gJ m a first s).1,a < K r)/\(∀r∈(gJ m a first s).1,wz r=0/\iq r.1=true/\pG r.1/\0<=r.2/\r.2 < 18446744073709551616)
 | 0,a,first,s,_,_,_=>by simp [gJ,wB,jl]
 | m+1,a,first,s,h,hf,hl=>by
   rw [XV] at h ⊢;by_cases h1:(bg s a first).2.2=0;rotate_left
   ·rw [aj h1] at h;exact absurd h h1
   rw [ah (λe=>e h1)] at h ⊢;by_cases h2:(gu (bg s a first).1 (s.drop (bg s a first).2.1)).2.2=0;rotate_left
   ·rw [aj h2] at h;exact absurd h h2
   rw [ah (λe=>e h2)] at h ⊢;by_cases h3:(gJ m (bg s a first).1 false (s.drop ((bg s a first).2.1+(gu (bg s a first).1 (s.drop (bg s a first).2.1)).2.1))).2.2=0;rotate_left
   ·rw [aj h3] at h;exact absurd h h3
   rw [ah (λe=>e h3)];obtain ⟨a1,a2,a3⟩:=XW h1;obtain ⟨p1,p2⟩:=ao4 h1 hf;obtain ⟨q1,q2,q3,q4,q5⟩:=X6 h2;have hxl:(bg s a first).1.length<=a.length+(bg s a first).2.1:=by
    cases first<;>simp at a3<;>omega
   obtain ⟨v1,v2,v3,v4,v5⟩:=jM q2;have dk:=abj q1 (by omega);obtain ⟨b1,b2,b3,b4⟩:=aeF m _ false _ h3 (λe=>by cases e) (by rw [eH];omega);have hK:K (gu (bg s a first).1 (s.drop (bg s a first).2.1)).1=(bg s a first).1:=by rw [q4];exact dk.put
   have hN:(gu (bg s a first).1 (s.drop (bg s a first).2.1)).1.2.toNat=(ay (s.drop (bg s a first).2.1)).1:=by rw [q4];simp
   simp only;refine ⟨?_, ?_,λLm r hr=>?_,λr hr=>?_⟩
   ·show zy a (K _)++(bG _++wB (K _) _)=_
    rw [hK,hN,b1,p1,v5,<- q5];rw [zY,zY,List.append_assoc]
   ·refine iV.2 ⟨λr hr=>?_,b2⟩
    rw [hK];exact b3 rfl r hr
   ·rcases bC.1 hr with rfl | hr
    ·rw [hK];exact p2 Lm
    ·exact xF (p2 Lm) (b3 rfl r hr)
   ·rcases bC.1 hr with rfl | hr
    ·rw [q4]
     refine ⟨?_,dk.few,dk.ents,by simp only;omega,by simp only;omega⟩;rw [ML];exact ⟨dk.chk,by simp only;omega⟩
    ·exact b4 r hr
structure Af (t:List Row):Prop where
 ok:Ok t
 few:vG t
 rows:Rows t
theorem Af.tb {t:List Row} (h:Af t):lD t=0:=(uD t).2 h.ok
theorem amu {s:List UInt8} (h:(lK s).2.2=0) (hs:s.length<=100000000):xg (lK s).1=s.take (lK s).2.1/\Af (lK s).1:=by
 obtain ⟨a1,a2,a3,a4,a5,a6⟩:=acN h;obtain ⟨v1,v2,v3,v4,v5⟩:=jM a1;obtain ⟨l1,l2⟩:=XU _ _ _ _ a3;obtain ⟨b1,b2,_,b4⟩:=aeF _ _ _ _ a3 (λ_=>rfl) (by rw [eH];simp;omega);rw [a4,a5];refine ⟨?_,⟨by omega,b2,λr hr=>(b4 r hr).1⟩,λr hr=>(b4 r hr).2.1,by omega,λr hr=>(b4 r hr).2.2⟩;unfold xg;rw [l2,v5,b1,zY]
theorem afQ:Af []:=⟨⟨by simp,List.Pairwise.nil,by simp⟩,λr hr=>by simp at hr,by simp,by simp⟩
theorem asG {s:List UInt8} (hs:s.length<=100000000):Af (qR s).1/\((qR s).2=0->xg (qR s).1=s)/\((qR s).2≠0->(qR s).1=[]):=by
 unfold qR;by_cases h1:(lK s).2.2=0;rotate_left
 ·rw [aj h1]
  exact ⟨afQ,λh=>absurd h h1,λ_=>rfl⟩
 rw [ah (λe=>e h1)];by_cases h2:(lK s).2.1 < s.length
 ·rw [aj h2]
  exact ⟨afQ,λh=>absurd h (by decide),λ_=>rfl⟩
 rw [ah h2];obtain ⟨b1,b2⟩:=amu h1 hs;rw [lu (by omega)] at b1;exact ⟨b2,λ_=>b1,λh=>absurd rfl h⟩
theorem Af.len {t:List Row} (h:Af t):t.length<=256:=h.ok.1
theorem Af.good {t:List Row} (h:Af t):fF t:=⟨Nat.le_trans h.len (by decide),h.few,h.rows⟩
inductive aH where
 | mk (tag typ num:Int) (text:List UInt8) (l:List aH)
mutual
def ng:aH->GV
 | .mk t y n s l=>.g [.i .u64 t,.i .i64 y,.i .u64 n,.s s,.l (aC l)]
def aC:List aH->List GV
 | []=>[]
 | f::l=>ng f::aC l
end
theorem l9:∀ (a:List aH),(aC a).length=a.length
 | []=>rfl
 | f::a=>by simp only [aC,jK,l9 a]
structure aS where
 kind:Int
 id:Int
 min:Int
 max:Int
 chosen:Int
 flags:Int
 cost:Int
 priority:Int
 deadline:Int
 retry:Int
 epoch:Int
 base:Int
 digest:Int
 lag:Int
 code:Int
 want:Int
 remaining:Int
 allowed:Bool
 name:List UInt8
 region:List UInt8
 note:List UInt8
 d:List dM
 t:List Row
/-- A message: what it has, and its rest. -/
def gI (b:aS) (r:List GV):GV:=.g [.i .i64 b.kind,.i .u64 b.id,.i .u64 b.min,.i .u64 b.max,.i .u64 b.chosen,.i .u64 b.flags,.i .u64 b.cost,.i .u64 b.priority,.i .u64 b.deadline,.i .u64 b.retry,.i .u64 b.epoch,.i .u64 b.base,.i .u64 b.digest,.i .u64 b.lag,.i .u64 b.code,.i .u64 b.want,.i .i64 b.remaining,.b b.allowed,.s b.name,.s b.region,.s b.note,.l (b.d.map ent),.l (b.t.map row),.l r]
theorem jI (b:aS) (r:List GV):GV.g [.i .i64 b.kind,.i .u64 b.id,.i .u64 b.min,.i .u64 b.max,.i .u64 b.chosen,.i .u64 b.flags,.i .u64 b.cost,.i .u64 b.priority,.i .u64 b.deadline,.i .u64 b.retry,.i .u64 b.epoch,.i .u64 b.base,.i .u64 b.digest,.i .u64 b.lag,.i .u64 b.code,.i .u64 b.want,.i .i64 b.remaining,.b b.allowed,.s b.name,.s b.region,.s b.note,.l (b.d.map ent),.l (b.t.map row),.l r]=gI b r:=rfl
@[simp] theorem dG (b:aS) (r:List GV):(gI b r).cells=[.i .i64 b.kind,.i .u64 b.id,.i .u64 b.min,.i .u64 b.max,.i .u64 b.chosen,.i .u64 b.flags,.i .u64 b.cost,.i .u64 b.priority,.i .u64 b.deadline,.i .u64 b.retry,.i .u64 b.epoch,.i .u64 b.base,.i .u64 b.digest,.i .u64 b.lag,.i .u64 b.code,.i .u64 b.want,.i .i64 b.remaining,.b b.allowed,.s b.name,.s b.region,.s b.note,.l (b.d.map ent),.l (b.t.map row),.l r]:=rfl
structure qW (b:aS):Prop where
 kind : -9223372036854775808<=b.kind/\b.kind<=9223372036854775807
 id:0<=b.id/\b.id < 18446744073709551616
 min:0<=b.min/\b.min < 18446744073709551616
 max:0<=b.max/\b.max < 18446744073709551616
 chosen:0<=b.chosen/\b.chosen < 18446744073709551616
 flags:0<=b.flags/\b.flags < 18446744073709551616
 cost:0<=b.cost/\b.cost < 18446744073709551616
 priority:0<=b.priority/\b.priority < 18446744073709551616
 deadline:0<=b.deadline/\b.deadline < 18446744073709551616
 retry:0<=b.retry/\b.retry < 18446744073709551616
 epoch:0<=b.epoch/\b.epoch < 18446744073709551616
 base:0<=b.base/\b.base < 18446744073709551616
 digest:0<=b.digest/\b.digest < 18446744073709551616
 lag:0<=b.lag/\b.lag < 18446744073709551616
 code:0<=b.code/\b.code < 18446744073709551616
 want:0<=b.want/\b.want < 18446744073709551616
 remaining : -9223372036854775808<=b.remaining/\b.remaining<=9223372036854775807
 name:b.name.length<=140737488351232
 region:b.region.length<=140737488351232
 note:b.note.length<=140737488351232
 d:pG b.d
 t:Rows b.t
theorem alh {k:IntKind} {g:GV} (h:(bK.int k).has g):∃n,g=.i k n/\k.min<=n/\n<=k.max:=by
 simp only [bK.has] at h;exact h
def rM (a c:Int) (n:List UInt8):aS:=⟨1,0,a,c,0,0,0,0,0,0,0,0,0,0,0,0,0,false,n,[],[],[],[]⟩
structure eG where
 tag:Int
 use:Int
 from_:Int
 name:List UInt8
def dZ (s:eG):GV:=.g [.i .u64 s.tag,.i .i64 s.use,.i .i64 s.from_,.s s.name]
@[simp] theorem av9 (s:eG):(dZ s).cells=[.i .u64 s.tag,.i .i64 s.use,.i .i64 s.from_,.s s.name]:=rfl
theorem arQ (s:eG):GV.g [.i .u64 s.tag,.i .i64 s.use,.i .i64 s.from_,.s s.name]=dZ s:=rfl
def sp1:List eG:=[⟨1,0,1,[109,105,110]⟩,⟨2,0,1,[109,97,120]⟩,⟨3,3,1,[110,97,109,101]⟩,⟨4,3,2,[114,101,103,105,111,110]⟩,⟨5,0,3,[102,108,97,103,115]⟩]
def sp2:List eG:=[⟨1,0,1,[99,104,111,115,101,110]⟩,⟨2,3,1,[110,97,109,101]⟩,⟨3,3,2,[114,101,103,105,111,110]⟩]
def BK:List eG:=[⟨1,0,1,[105,100]⟩,⟨2,4,1,[100,101,115,99,114]⟩,⟨3,0,1,[99,111,115,116]⟩,⟨4,0,2,[112,114,105,111,114,105,116,121]⟩,⟨5,0,3,[100,101,97,100,108,105,110,101]⟩]
def BL:List eG:=[⟨1,0,1,[105,100]⟩,⟨2,1,1,[97,108,108,111,119,101,100]⟩,⟨3,2,1,[114,101,109,97,105,110,105,110,103]⟩,⟨4,0,2,[114,101,116,114,121]⟩,⟨5,3,3,[110,111,116,101]⟩]
def BM:List eG:=[⟨1,0,1,[101,112,111,99,104]⟩,⟨2,5,1,[116,97,98,108,101]⟩,⟨3,3,2,[114,101,103,105,111,110]⟩,⟨4,0,3,[100,105,103,101,115,116]⟩]
def BN:List eG:=[⟨1,0,2,[98,97,115,101]⟩,⟨2,0,2,[101,112,111,99,104]⟩,⟨3,5,2,[116,97,98,108,101]⟩,⟨4,3,2,[114,101,103,105,111,110]⟩,⟨5,0,3,[100,105,103,101,115,116]⟩]
def BO:List eG:=[⟨1,0,1,[101,112,111,99,104]⟩,⟨2,0,3,[108,97,103]⟩]
def BP:List eG:=[⟨1,0,1,[101,112,111,99,104]⟩,⟨2,0,1,[99,111,100,101]⟩,⟨3,0,2,[119,97,110,116]⟩,⟨4,3,3,[110,111,116,101]⟩]
def wC (k:Int):List eG:=if k=1 then sp1 else if k=2 then sp2 else if k=3 then BK else if k=4 then BL else if k=5 then BM else if k=6 then BN else if k=7 then BO else if k=8 then BP else []
def pW (k:Int):Int:=if k=1 then 1 else if k=2 then 1 else if k=3 then 1 else if k=4 then 1 else if k=5 then 1 else if k=6 then 2 else if k=7 then 1 else if k=8 then 1 else 0
def bI (k v:Int):List eG:=(wC k).filter λs=>decide (s.from_<=v)
theorem als:TT.lim 55 []=some [.l (sp1.map dZ)]:=by refine aQ rfl rfl ?_ rfl;simp [sp1,dZ]
theorem alo:TT.lim 57 []=some [.l (sp2.map dZ)]:=by refine aQ rfl rfl ?_ rfl;simp [sp2,dZ]
theorem ahE:TT.lim 58 []=some [.l (BK.map dZ)]:=by refine aQ rfl rfl ?_ rfl;simp [BK,dZ]
theorem ahF:TT.lim 59 []=some [.l (BL.map dZ)]:=by refine aQ rfl rfl ?_ rfl;simp [BL,dZ]
theorem akO:TT.lim 60 []=some [.l (BM.map dZ)]:=by refine aQ rfl rfl ?_ rfl;simp [BM,dZ]
theorem ajD:TT.lim 61 []=some [.l (BN.map dZ)]:=by refine aQ rfl rfl ?_ rfl;simp [BN,dZ]
theorem agP:TT.lim 62 []=some [.l (BO.map dZ)]:=by refine aQ rfl rfl ?_ rfl;simp [BO,dZ]
theorem apU:TT.lim 63 []=some [.l (BP.map dZ)]:=by refine aQ rfl rfl ?_ rfl;simp [BP,dZ]
theorem Wh (k:Int):TT.lim 53 [.i .i64 k]=some [.i .i64 (pW k)]:=by
 refine aQ rfl rfl ?_ rfl;unfold pW;by_cases h1:k=1
 ·simp -implicitDefEqProofs [h1]
 by_cases h2:k=2
 ·simp -implicitDefEqProofs [h2]
 by_cases h3:k=3
 ·simp -implicitDefEqProofs [h3]
 by_cases h4:k=4
 ·simp -implicitDefEqProofs [h4]
 by_cases h5:k=5
 ·simp -implicitDefEqProofs [h5]
 by_cases h6:k=6
 ·simp -implicitDefEqProofs [h6]
 by_cases h7:k=7
 ·simp -implicitDefEqProofs [h7]
 by_cases h8:k=8
 ·simp -implicitDefEqProofs [h8]
 simp -implicitDefEqProofs [h1,h2,h3,h4,h5,h6,h7,h8]
theorem Wj (v:Int) (l:List eG) (hl:l.length<=8):∀ (m i:Nat) (acc:List eG),i+m=l.length->acc.length<=i->
 TT.lim 56 [.i .i64 v,.l (acc.map dZ),.l (l.map dZ),.i .i64 l.length,.i .i64 i]=some [.i .i64 0,.l ((acc++(l.drop i).filter λs=>decide (s.from_<=v)).map dZ)]
 | 0,i,acc,hi,ha=>by
   have h0:l.drop i=[]:=fJ (by omega);refine aB rfl rfl ?_;have h:¬ ((i:Int) < l.length):=by omega
   simp -implicitDefEqProofs [h,h0]
 | m+1,i,acc,hi,ha=>by
   have hlt:i < l.length:=by omega
   have hd:=iC hlt;refine aB rfl rfl ?_;have h:((i:Int) < l.length):=by omega
   have hw:=wrap64 (n:=(i:Int)+1) (by omega) (by omega);have hb1:2 * (acc.length+1) * 40<=281474976710656:=by omega
   have hb2:acc.length<=281474976710655:=by omega
   have hok:(dZ l[i]).fA 4=true:=rfl;have hcast:((i:Int)+1)=((i+1:Nat):Int):=by omega
   by_cases hf:l[i].from_<=v
   ·have ih:=Wj v l hl m (i+1) (acc++[l[i]]) (by omega) (by simp;omega)
    rw [<- hcast,mQ] at ih;simp only [gV,lW] at ih;simp -implicitDefEqProofs [-List.getElem_cons_drop,h,hlt,hf,hw,arQ,hb1,hb2,hok,ih,hd]
   ·have ih:=Wj v l hl m (i+1) acc (by omega) (by omega)
    rw [<- hcast] at ih;simp -implicitDefEqProofs [-List.getElem_cons_drop,h,hlt,hf,hw,ih,hd]
theorem arP (k:Int):(wC k).length<=8:=by
 unfold wC;repeat' split
 all_goals (first | (unfold sp1;decide) | (unfold sp2;decide) | (unfold BK;decide) | (unfold BL;decide) | (unfold BM;decide) | (unfold BN;decide) | (unfold BO;decide) | (unfold BP;decide) | decide)
theorem Dw (v:Int) (l:List eG) (hl:l.length<=8):TT.lim 56 [.i .i64 v,.l [],.l (l.map dZ),.i .i64 l.length,.i .i64 0]=some [.i .i64 0,.l ((l.filter λs=>decide (s.from_<=v)).map dZ)]:=by
 have:=Wj v l hl l.length 0 [] (by omega) (by simp);simpa using this
theorem Qu (k v:Int) (h1:1<=v) (h3:v<=3) (hk:pW k<=v):TT.lim 54 [.i .i64 k,.i .i64 v]=some [.l ((bI k v).map dZ)]:=by
 have a1:¬ v < 1:=by omega
 have a3:¬ 3 < v:=by omega
 unfold bI wC;unfold pW at hk;have g1:=Dw v sp1 (by decide);have g2:=Dw v sp2 (by decide);have g3:=Dw v BK (by decide);have g4:=Dw v BL (by decide);have g5:=Dw v BM (by decide);have g6:=Dw v BN (by decide);have g7:=Dw v BO (by decide);have g8:=Dw v BP (by decide);have e1:=als;have e2:=alo;have e3:=ahE;have e4:=ahF;have e5:=akO;have e6:=ajD;have e7:=agP;have e8:=apU;generalize sp1=p1 at *;generalize sp2=p2 at *;generalize BK=p3 at *;generalize BL=p4 at *;generalize BM=p5 at *;generalize BN=p6 at *;generalize BO=p7 at *;generalize BP=p8 at *;refine aQ rfl rfl ?_ rfl;by_cases k1:k=1
 ·simp -implicitDefEqProofs [k1,a1,a3,e1,g1]
 by_cases k2:k=2
 ·simp -implicitDefEqProofs [k2,a1,a3,e2,g2]
 by_cases k3:k=3
 ·simp -implicitDefEqProofs [k3,a1,a3,e3,g3]
 by_cases k4:k=4
 ·simp -implicitDefEqProofs [k4,a1,a3,e4,g4]
 by_cases k5:k=5
 ·simp -implicitDefEqProofs [k5,a1,a3,e5,g5]
 by_cases k6:k=6
 ·have a2:¬ v < 2:=by subst k6;simpa using hk
  simp -implicitDefEqProofs [k6,a1,a2,a3,e6,g6]
 by_cases k7:k=7
 ·simp -implicitDefEqProofs [k7,a1,a3,e7,g7]
 by_cases k8:k=8
 ·simp -implicitDefEqProofs [k8,a1,a3,e8,g8]
 simp -implicitDefEqProofs [k1,k2,k3,k4,k5,k6,k7,k8]
theorem acT (k v:Int) (h1:1<=v) (h3:v<=3):bI k v=[]↔pW k=0\/v < pW k:=by
 have hv:v=1\/v=2\/v=3:=by omega
 unfold bI wC pW;by_cases k1:k=1
 ·subst k1;rcases hv with rfl | rfl | rfl<;>decide
 by_cases k2:k=2
 ·subst k2;rcases hv with rfl | rfl | rfl<;>decide
 by_cases k3:k=3
 ·subst k3;rcases hv with rfl | rfl | rfl<;>decide
 by_cases k4:k=4
 ·subst k4;rcases hv with rfl | rfl | rfl<;>decide
 by_cases k5:k=5
 ·subst k5;rcases hv with rfl | rfl | rfl<;>decide
 by_cases k6:k=6
 ·subst k6;rcases hv with rfl | rfl | rfl<;>decide
 by_cases k7:k=7
 ·subst k7;rcases hv with rfl | rfl | rfl<;>decide
 by_cases k8:k=8
 ·subst k8;rcases hv with rfl | rfl | rfl<;>decide
 simp -implicitDefEqProofs [k1,k2,k3,k4,k5,k6,k7,k8]
def aH.tag:aH->Int
 | .mk t _ _ _ _=>t
theorem zf:∀ (a:List aH),aC a=a.map ng
 | []=>rfl
 | f::a=>by simp only [aC,gV,zf a]
mutual
def su:aH->Nat
 | .mk _ _ _ _ l=>bU l+1
def bU:List aH->Nat
 | []=>0
 | f::l=>su f+bU l+1
end
mutual
def rJ:aH->Prop
 | .mk t y n s k=>(0<=t/\t < 18446744073709551616/\-128<=y/\y<=127/\0<=n/\n < 18446744073709551616/\s.length<=100000000/\k.length<=1000000)/\dJ k
def dJ:List aH->Prop
 | []=>True
 | f::r=>rJ f/\dJ r
end
theorem Dp:∀ {l:List aH},dJ l->∀f∈l,rJ f
 | f::l,h,g,hg=>by
   simp only [dJ] at h;rcases bC.1 hg with rfl | hg
   ·exact h.1
   ·exact Dp h.2 g hg
theorem Sz:∀ {l:List aH} {f:aH},f∈l->su f < bU l
 | g::l,f,h=>by
   simp only [bU];rcases bC.1 h with rfl | h
   ·omega
   ·have:=Sz h;omega
mutual
/-- What is wrong with fields within so many lists, behind a tag. -/
def yV (w:Nat):aH->Int
 | .mk _ y n s k=>if y=0 then (if s=[]/\k=[] then 0 else 8) else if y=1 then (if n=0/\k=[] then 0 else 8) else if y=2 then (if n=0/\s=[] then (if 8<=w then 9 else jm (w+1) 0 k) else 8) else 8
def jm (w:Nat) (ahead:Int):List aH->Int
 | []=>0
 | f::r=>if f.tag=0 then 18 else if 4294967296 < f.tag then 18 else if f.tag<=ahead then 7 else if yV w f≠0 then yV w f else jm w f.tag r
end
@[simp] theorem Iq (t y n:Int) (s:List UInt8) (k:List aH):(ng (.mk t y n s k)).cells=[.i .u64 t,.i .i64 y,.i .u64 n,.s s,.l (aC k)]:=by simp only [ng];rfl
theorem akI (k:List aH):(aC k).length=0↔k=[]:=by rw [l9,Zt]
theorem abH:∀ (N:Nat) (l:List aH),bU l < N->dJ l->l.length<=1000000->∀w:Nat,w<=8->TT.lim 92 [.l (aC l),.i .i64 w]=some [.i .i64 (jm w 0 l)]
 | 0,l,h,_,_,_,_=>by omega
 | N+1,l,hN,hok,hlen,w,hw8=>by
   have loop:∀m i (ahead:Int),i+m=l.length->TT.lim 93 [.i .i64 w,.i .u64 ahead,.l (aC l),.i .i64 l.length,.i .i64 i]=some (if jm w ahead (l.drop i)=0 then [.i .i64 1] else [.i .i64 0,.i .i64 (jm w ahead (l.drop i))]):=by
    intro m;induction m with
    | zero=>
      intro i ahead hi;have h0:l.drop i=[]:=fJ (by omega);refine aB rfl rfl ?_;have h:¬ ((i:Int) < l.length):=by omega
      simp -implicitDefEqProofs [h,h0,jm]
    | succ m ih=>
      intro i ahead hi;have hlt:i < l.length:=by omega
      rw [iC hlt];have hf:=Dp hok l[i] (gU hlt);have hs:=Sz (gU hlt);have hget:(aC l)[i]? = some (ng l[i]):=by rw [zf,iF,bM hlt];rfl
      have hcast:((i:Int)+1)=((i+1:Nat):Int):=by omega
      have ih':=λa=>ih (i+1) a (by omega);simp only [<- hcast] at ih';generalize l[i]=f at *;obtain ⟨t,y,n,s,k⟩:=f;simp only [rJ] at hf;simp only [su] at hs;have hwr:=wrap64 (n:=(i:Int)+1) (by omega) (by omega);have hww:=wrap64 (n:=(w:Int)+1) (by omega) (by omega);refine aB rfl rfl ?_;have h:((i:Int) < l.length):=by omega
      have hk:=λh=>abH N k (by omega) hf.2 hf.1.2.2.2.2.2.2.2 (w+1) h;simp only [Ce,Int.natCast_one] at hk;have hkl:((aC k).length=0)=(k=[]):=propext (akI k);simp only [jm,aH.tag];by_cases h1:t=0
      ·simp -implicitDefEqProofs [h,hget,h1]
      by_cases h2:4294967296 < t
      ·simp -implicitDefEqProofs [h,hget,h1,h2]
      by_cases h3:t<=ahead
      ·simp -implicitDefEqProofs [h,hget,h1,h2,h3]
      simp only [yV];by_cases h4:y=0
      ·subst h4
       by_cases h5:s=[]
       ·by_cases h6:k=[]
        ·simp -implicitDefEqProofs [h,hget,h1,h2,h3,h5,h6,hwr,ih',aC]
        ·simp -implicitDefEqProofs [h,hget,h1,h2,h3,h5,h6,hwr,ih',hkl]
       ·simp -implicitDefEqProofs [h,hget,h1,h2,h3,h5]
      by_cases h7:y=1
      ·subst h7
       by_cases h5:n=0
       ·by_cases h6:k=[]
        ·simp -implicitDefEqProofs [h,hget,h1,h2,h3,h5,h6,hwr,ih',aC]
        ·simp -implicitDefEqProofs [h,hget,h1,h2,h3,h5,h6,hwr,ih',hkl]
       ·simp -implicitDefEqProofs [h,hget,h1,h2,h3,h5]
      by_cases h8:y=2
      ·subst h8
       by_cases h5:n=0
       ·by_cases h6:s=[]
        ·by_cases h9:8<=w
         ·have P5:(8:Int)<=w:=by omega
          simp -implicitDefEqProofs [h,hget,h1,h2,h3,h5,h6,h9,P5]
         ·have P5:¬ (8:Int)<=w:=by omega
          have hk:=hk (by omega);by_cases h10:jm (w+1) 0 k=0
          ·rw [h10] at hk
           simp -implicitDefEqProofs [h,hget,h1,h2,h3,h5,h6,h9,P5,hww,hk,h10,hwr,ih',aH.tag]
          ·simp -implicitDefEqProofs [h,hget,h1,h2,h3,h5,h6,h9,P5,hww,hk,h10,hwr,ih',aH.tag]
        ·simp -implicitDefEqProofs [h,hget,h1,h2,h3,h5,h6]
       ·simp -implicitDefEqProofs [h,hget,h1,h2,h3,h5]
      simp -implicitDefEqProofs [h,hget,h1,h2,h3,h4,h7,h8]
   have h0:=loop l.length 0 0 (by omega);rw [dO] at h0;refine aQ rfl rfl ?_ rfl;have hl2:=l9 l;by_cases hc:jm w 0 l=0
   ·rw [aj hc] at h0
    have h0':TT.lim 93 [.i .i64 w,.i .u64 0,.l (aC l),.i .i64 (aC l).length,.i .i64 0]=some [.i .i64 1]:=by rw [hl2];exact h0
    simp -implicitDefEqProofs [h0',hc]
   ·rw [ah hc] at h0
    have h0':TT.lim 93 [.i .i64 w,.i .u64 0,.l (aC l),.i .i64 (aC l).length,.i .i64 0]=some [.i .i64 0,.i .i64 (jm w 0 l)]:=by rw [hl2];exact h0
    simp -implicitDefEqProofs [h0',hc]
theorem Px (l:List aH) (hok:dJ l) (hlen:l.length<=1000000):TT.lim 91 [.l (aC l)]=some [.i .i64 (jm 0 0 l)]:=by
 have h:=abH (bU l+1) l (by omega) hok hlen 0 (by omega);have h':TT.lim 92 [.l (aC l),.i .i64 0]=_:=h;refine aQ rfl rfl ?_ rfl;simp -implicitDefEqProofs [h']
inductive Pl where
 | rem | allow | name | region | note | d | t
 | num (k:Nat)
def FD:List UInt8:=[114,101,109,97,105,110,105,110,103]
def EZ:List UInt8:=[97,108,108,111,119,101,100]
def Fv:List UInt8:=[110,97,109,101]
def FB:List UInt8:=[114,101,103,105,111,110]
def Bg:List UInt8:=[110,111,116,101]
def Fb:List UInt8:=[100,101,115,99,114]
def FI:List UInt8:=[116,97,98,108,101]
def Fh:List UInt8:=[105,100]
def Fq:List UInt8:=[109,105,110]
def Fp:List UInt8:=[109,97,120]
def E8:List UInt8:=[99,104,111,115,101,110]
def Fg:List UInt8:=[102,108,97,103,115]
def E9:List UInt8:=[99,111,115,116]
def Fz:List UInt8:=[112,114,105,111,114,105,116,121]
def Fa:List UInt8:=[100,101,97,100,108,105,110,101]
def FH:List UInt8:=[114,101,116,114,121]
def yu:List UInt8:=[101,112,111,99,104]
def E5:List UInt8:=[98,97,115,101]
def Fe:List UInt8:=[100,105,103,101,115,116]
def Fj:List UInt8:=[108,97,103]
def yt:List UInt8:=[99,111,100,101]
def zu:List UInt8:=[119,97,110,116]
def placeOf (n:List UInt8):Option Pl:=
 if n=FD then some .rem else if n=EZ then some .allow else if n=Fv then some .name else if n=FB then some .region else if n=Bg then some .note else if n=Fb then some .d else if n=FI then some .t else if n=Fh then some (.num 0) else if n=Fq then some (.num 1) else if n=Fp then some (.num 2) else if n=E8 then some (.num 3) else if n=Fg then some (.num 4) else if n=E9 then some (.num 5) else if n=Fz then some (.num 6) else if n=Fa then some (.num 7) else if n=FH then some (.num 8) else if n=yu then some (.num 9) else if n=E5 then some (.num 10) else if n=Fe then some (.num 11) else if n=Fj then some (.num 12) else if n=yt then some (.num 13) else if n=zu then some (.num 14) else none
theorem aeA:placeOf FD=some .rem:=rfl
theorem aeg:placeOf EZ=some .allow:=rfl
theorem aew:placeOf Fv=some .name:=rfl
theorem aez:placeOf FB=some .region:=rfl
theorem aex:placeOf Bg=some .note:=rfl
theorem aem:placeOf Fb=some .d:=rfl
theorem aeC:placeOf FI=some .t:=rfl
theorem aer:placeOf Fh=some (.num 0):=rfl
theorem aev:placeOf Fq=some (.num 1):=rfl
theorem aeu:placeOf Fp=some (.num 2):=rfl
theorem aei:placeOf E8=some (.num 3):=rfl
theorem aep:placeOf Fg=some (.num 4):=rfl
theorem aek:placeOf E9=some (.num 5):=rfl
theorem aey:placeOf Fz=some (.num 6):=rfl
theorem ael:placeOf Fa=some (.num 7):=rfl
theorem aeB:placeOf FH=some (.num 8):=rfl
theorem aeo:placeOf yu=some (.num 9):=rfl
theorem aeh:placeOf E5=some (.num 10):=rfl
theorem aen:placeOf Fe=some (.num 11):=rfl
theorem aes:placeOf Fj=some (.num 12):=rfl
theorem aej:placeOf yt=some (.num 13):=rfl
theorem aeD:placeOf zu=some (.num 14):=rfl
def DK (b:aS) (k:Nat):Int:=match k with
 | 0=>b.id
 | 1=>b.min
 | 2=>b.max
 | 3=>b.chosen
 | 4=>b.flags
 | 5=>b.cost
 | 6=>b.priority
 | 7=>b.deadline
 | 8=>b.retry
 | 9=>b.epoch
 | 10=>b.base
 | 11=>b.digest
 | 12=>b.lag
 | 13=>b.code
 | _=>b.want
def QY (b:aS):Pl->Bool
 | .rem=>decide (b.remaining=0)
 | .allow=>!b.allowed
 | .name=>decide (b.name=[])
 | .region=>decide (b.region=[])
 | .note=>decide (b.note=[])
 | .d=>decide (b.d=[])
 | .t=>decide (b.t=[])
 | .num k=>decide (DK b k=0)
def rW (b:aS) (n:List UInt8):Bool:=match placeOf n with
 | some p=>QY b p
 | none=>true
def sZ (b:aS):Pl->Int
 | .name=>nM b.name 0 256
 | .region=>nM b.region 0 256
 | .note=>nM b.note 0 256
 | .d=>if b.d=[] then 0 else xQ b.d
 | .t=>lD b.t
 | _=>0
def zq (b:aS) (n:List UInt8):Int:=match placeOf n with
 | some p=>sZ b p
 | none=>0
def zz (x:Int):Int:=if 0<=x then 2 * x else -2 * x - 1
def bZ (b:aS):Pl->Int×List UInt8
 | .rem=>(zz b.remaining,[])
 | .allow=>(if b.allowed=true then 1 else 0,[])
 | .name=>(0,b.name)
 | .region=>(0,b.region)
 | .note=>(0,b.note)
 | .d=>(0,if b.d=[] then [] else dN b.d)
 | .t=>(0,if b.t=[] then [] else (MF b.t).1)
 | .num k=>(DK b k,[])
def eF:Pl->Int
 | .num _=>0
 | .rem=>0
 | .allow=>0
 | _=>1
def asU:Pl->Int
 | .num _=>0
 | .allow=>1
 | .rem=>2
 | .d=>4
 | .t=>5
 | _=>3
def nameOf:Pl->List UInt8
 | .rem=>FD
 | .allow=>EZ
 | .name=>Fv
 | .region=>FB
 | .note=>Bg
 | .d=>Fb
 | .t=>FI
 | .num k=>match k with
   | 0=>Fh
   | 1=>Fq
   | 2=>Fp
   | 3=>E8
   | 4=>Fg
   | 5=>E9
   | 6=>Fz
   | 7=>Fa
   | 8=>FH
   | 9=>yu
   | 10=>E5
   | 11=>Fe
   | 12=>Fj
   | 13=>yt
   | _=>zu
def Q5:Pl->Prop
 | .num k=>k < 15
 | _=>True
theorem amk {c:Prop} [Decidable c] {a b:Option Pl} {p:Pl} (h:(if c then a else b)=some p):(c/\a=some p)\/(¬ c/\b=some p):=by
 by_cases e:c
 ·rw [aj e] at h
  exact .inl ⟨e,h⟩
 ·rw [ah e] at h
  exact .inr ⟨e,h⟩
theorem Ji (n:List UInt8) (p:Pl) (h:placeOf n=some p):n=nameOf p/\Q5 p/\n∈gQ:=by
 unfold placeOf at h
 iterate 22
  replace h:=amk h
  rcases h with ⟨e,h⟩ | ⟨-,h⟩
  ·cases h
   subst e;exact ⟨rfl,by first | exact trivial | exact (show _ < 15 by decide),by decide⟩
 cases h
theorem ao0 {a b:List UInt8} {p:Pl} (ha:placeOf a=some p) (hb:placeOf b=some p):a=b:=by rw [(Ji a p ha).1,(Ji b p hb).1]
theorem amj {n m:List UInt8} {p q:Pl} (hp:placeOf n=some p) (hq:placeOf m=some q):(n=m)=(p=q):=
 propext ⟨λe=>by subst e;rw [hp] at hq;cases hq;rfl,λe=>by subst e;exact ao0 hp hq⟩
theorem Qj {n:List UInt8} {p:Pl} (hp:placeOf n=some p):((n=[114,101,109,97,105,110,105,110,103])=(p=.rem))/\((n=[97,108,108,111,119,101,100])=(p=.allow))/\((n=[110,97,109,101])=(p=.name))/\((n=[114,101,103,105,111,110])=(p=.region))/\((n=[110,111,116,101])=(p=.note))/\((n=[100,101,115,99,114])=(p=.d))/\((n=[116,97,98,108,101])=(p=.t))/\((n=[105,100])=(p=.num 0))/\((n=[109,105,110])=(p=.num 1))/\((n=[109,97,120])=(p=.num 2))/\((n=[99,104,111,115,101,110])=(p=.num 3))/\((n=[102,108,97,103,115])=(p=.num 4))/\((n=[99,111,115,116])=(p=.num 5))/\((n=[112,114,105,111,114,105,116,121])=(p=.num 6))/\((n=[100,101,97,100,108,105,110,101])=(p=.num 7))/\((n=[114,101,116,114,121])=(p=.num 8))/\((n=[101,112,111,99,104])=(p=.num 9))/\((n=[98,97,115,101])=(p=.num 10))/\((n=[100,105,103,101,115,116])=(p=.num 11))/\((n=[108,97,103])=(p=.num 12))/\((n=[99,111,100,101])=(p=.num 13))/\((n=[119,97,110,116])=(p=.num 14)):=by
 and_intros<;>exact amj hp rfl
theorem acJ {n:List UInt8} (h:placeOf n=none):((n=[114,101,109,97,105,110,105,110,103])=False)/\((n=[97,108,108,111,119,101,100])=False)/\((n=[110,97,109,101])=False)/\((n=[114,101,103,105,111,110])=False)/\((n=[110,111,116,101])=False)/\((n=[100,101,115,99,114])=False)/\((n=[116,97,98,108,101])=False)/\((n=[105,100])=False)/\((n=[109,105,110])=False)/\((n=[109,97,120])=False)/\((n=[99,104,111,115,101,110])=False)/\((n=[102,108,97,103,115])=False)/\((n=[99,111,115,116])=False)/\((n=[112,114,105,111,114,105,116,121])=False)/\((n=[100,101,97,100,108,105,110,101])=False)/\((n=[114,101,116,114,121])=False)/\((n=[101,112,111,99,104])=False)/\((n=[98,97,115,101])=False)/\((n=[100,105,103,101,115,116])=False)/\((n=[108,97,103])=False)/\((n=[99,111,100,101])=False)/\((n=[119,97,110,116])=False):=by
 and_intros<;>exact eq_false λe=>by subst e;exact absurd h (by decide)
theorem Jg {Q:(p:Pl)->Q5 p->Prop} (h0:Q (.rem) trivial) (h1:Q (.allow) trivial) (h2:Q (.name) trivial) (h3:Q (.region) trivial) (h4:Q (.note) trivial) (h5:Q (.d) trivial) (h6:Q (.t) trivial) (h7:Q (.num 0) (show 0 < 15 by decide)) (h8:Q (.num 1) (show 1 < 15 by decide)) (h9:Q (.num 2) (show 2 < 15 by decide)) (h10:Q (.num 3) (show 3 < 15 by decide)) (h11:Q (.num 4) (show 4 < 15 by decide)) (h12:Q (.num 5) (show 5 < 15 by decide)) (h13:Q (.num 6) (show 6 < 15 by decide)) (h14:Q (.num 7) (show 7 < 15 by decide)) (h15:Q (.num 8) (show 8 < 15 by decide)) (h16:Q (.num 9) (show 9 < 15 by decide)) (h17:Q (.num 10) (show 10 < 15 by decide)) (h18:Q (.num 11) (show 11 < 15 by decide)) (h19:Q (.num 12) (show 12 < 15 by decide)) (h20:Q (.num 13) (show 13 < 15 by decide)) (h21:Q (.num 14) (show 14 < 15 by decide)) (p:Pl) (hp:Q5 p):Q p hp:=by
 cases p with
 | num k=>
   simp only [Q5] at hp;rcases (show k=0\/k=1\/k=2\/k=3\/k=4\/k=5\/k=6\/k=7\/k=8\/k=9\/k=10\/k=11\/k=12\/k=13\/k=14 by omega) with rfl | rfl | rfl | rfl | rfl | rfl | rfl | rfl | rfl | rfl | rfl | rfl | rfl | rfl | rfl<;>assumption
 | _=>assumption
def sQ (ps:List (List UInt8)):List GV:=ps.map λp=>.g [.s p,.b true]
def zi (ps:List (List UInt8)) (x:List UInt8):List (List UInt8):=if x∈ps then ps else ps++[x]
theorem Ul (n:List UInt8):∀ps:List (List UInt8),ig (.s n) (sQ ps)=if n∈ps then some (.b true) else none
 | []=>rfl
 | p::ps=>by
   have ih:=Ul n ps;simp only [sQ,gV,ig,nG] at ih ⊢;by_cases e:n=p
   ·subst e;simp
   ·have e2:¬ p=n:=λh=>e h.symm
    simp -implicitDefEqProofs [e,ih]
theorem aeO (x:List UInt8):∀ps:List (List UInt8),jZ (.s x) (.b true) (sQ ps)=sQ (zi ps x)
 | []=>rfl
 | p::ps=>by
   have ih:=aeO x ps;unfold zi at ih ⊢;simp only [sQ,gV,jZ,nG] at ih ⊢;by_cases e:x=p
   ·subst e;simp
   ·have e1:(x==p)=false:=by simpa using e
    simp only [e1,fV,if_false];rw [ih];by_cases hm:x∈ps
    ·simp only [hm,if_true,bC,or_true,gV]
    ·simp only [hm,if_false,bC,e,or_false,bJ,gV]
def x9 (ps:List (List UInt8)) (l:List eG):List (List UInt8):=l.foldl (λps s=>zi ps s.name) ps
theorem ane (n x:List UInt8) (ps:List (List UInt8)):n∈zi ps x↔n∈ps\/x=n:=by
 unfold zi;split
 ·next h=>exact ⟨.inl,λe=>e.elim id (λe=>e ▸ h)⟩
 ·simp -implicitDefEqProofs [eq_comm]
theorem adC (n:List UInt8):∀ (l:List eG) (ps:List (List UInt8)),n∈x9 ps l↔n∈ps\/∃s∈l,s.name=n
 | [],ps=>by simp [x9]
 | s::l,ps=>by
   have:=adC n l (zi ps s.name);unfold x9 at this ⊢;rw [List.foldl_cons,this,ane];simp -implicitDefEqProofs [or_assoc]
def zh (l:List eG) (n:List UInt8):Bool:=l.any λs=>decide (s.name=n)
theorem anb (n:List UInt8) (l:List eG):decide (n∈x9 [] l)=zh l n:=by
 rw [vF,decide_eq_true_iff,adC];simp -implicitDefEqProofs [zh]
theorem adw (b:aS) (r:List GV) (l:List eG) (hl:l.length<=1000):∀ (m i:Nat) (ps:List (List UInt8)),i+m=l.length->
 TT.lim 64 [.l (l.map dZ),.i .i64 l.length,.i .i64 i,.l (sQ ps),.i .i64 b.kind,.i .u64 b.id,.i .u64 b.min,.i .u64 b.max,.i .u64 b.chosen,.i .u64 b.flags,.i .u64 b.cost,.i .u64 b.priority,.i .u64 b.deadline,.i .u64 b.retry,.i .u64 b.epoch,.i .u64 b.base,.i .u64 b.digest,.i .u64 b.lag,.i .u64 b.code,.i .u64 b.want,.i .i64 b.remaining,.b b.allowed,.s b.name,.s b.region,.s b.note,.l (b.d.map ent),.l (b.t.map row),.l r]=some [.i .i64 0,.l (sQ (x9 ps (l.drop i)))]
 | 0,i,ps,hi=>by
   have h0:l.drop i=[]:=fJ (by omega);refine aB rfl rfl ?_;have h:¬ ((i:Int) < l.length):=by omega
   simp -implicitDefEqProofs [h,h0,x9]
 | m+1,i,ps,hi=>by
   have hlt:i < l.length:=by omega
   have ih:=adw b r l hl m (i+1) (zi ps l[i].name) (by omega);have hcast:((i:Int)+1)=((i+1:Nat):Int):=by omega
   rw [<- hcast] at ih;have hp:=aeO l[i].name ps;have hd:x9 ps (l.drop i)=x9 (zi ps l[i].name) (l.drop (i+1)):=by
    rw [iC hlt];rfl
   rw [hd];generalize x9 (zi ps l[i].name) (l.drop (i+1))=X at *;generalize sQ (zi ps l[i].name)=Y at *;refine aB rfl rfl ?_;have h:((i:Int) < l.length):=by omega
   have hw:=wrap64 (n:=(i:Int)+1) (by omega) (by omega);simp -implicitDefEqProofs [h,hlt,hw,hp,ih]
/-- One round of the second loop. -/
def agE (b:aS) (r:List GV) (n:List UInt8) (c:Prop):Prop:=∀ (sp:GV) (ns:List (List UInt8)) (i:Nat) (ps:List (List UInt8)) (out:List GV) (h:i < ns.length),((i:Int) < ns.length)->IntKind.i64.wrap ((i:Int)+1)=(i:Int)+1->ns[i]=n->ig (.s n) (sQ ps)=none->
    TT.lim 66 [sp,.l (ns.map .s),.i .i64 ns.length,.i .i64 ((i:Int)+1),.l (sQ ps),.i .i64 b.kind,.i .u64 b.id,.i .u64 b.min,.i .u64 b.max,.i .u64 b.chosen,.i .u64 b.flags,.i .u64 b.cost,.i .u64 b.priority,.i .u64 b.deadline,.i .u64 b.retry,.i .u64 b.epoch,.i .u64 b.base,.i .u64 b.digest,.i .u64 b.lag,.i .u64 b.code,.i .u64 b.want,.i .i64 b.remaining,.b b.allowed,.s b.name,.s b.region,.s b.note,.l (b.d.map ent),.l (b.t.map row),.l r]=some out->
    (c->TT.lim 66 [sp,.l (ns.map .s),.i .i64 ns.length,.i .i64 i,.l (sQ ps),.i .i64 b.kind,.i .u64 b.id,.i .u64 b.min,.i .u64 b.max,.i .u64 b.chosen,.i .u64 b.flags,.i .u64 b.cost,.i .u64 b.priority,.i .u64 b.deadline,.i .u64 b.retry,.i .u64 b.epoch,.i .u64 b.base,.i .u64 b.digest,.i .u64 b.lag,.i .u64 b.code,.i .u64 b.want,.i .i64 b.remaining,.b b.allowed,.s b.name,.s b.region,.s b.note,.l (b.d.map ent),.l (b.t.map row),.l r]=some out)/\(¬ c->TT.lim 66 [sp,.l (ns.map .s),.i .i64 ns.length,.i .i64 i,.l (sQ ps),.i .i64 b.kind,.i .u64 b.id,.i .u64 b.min,.i .u64 b.max,.i .u64 b.chosen,.i .u64 b.flags,.i .u64 b.cost,.i .u64 b.priority,.i .u64 b.deadline,.i .u64 b.retry,.i .u64 b.epoch,.i .u64 b.base,.i .u64 b.digest,.i .u64 b.lag,.i .u64 b.code,.i .u64 b.want,.i .i64 b.remaining,.b b.allowed,.s b.name,.s b.region,.s b.note,.l (b.d.map ent),.l (b.t.map row),.l r]=some [.i .i64 0])
theorem adM:TT.lim 65 []=some [.l (gQ.map .s)]:=FX (Ds:=Ds) (k:=65) (f:=QS) rfl rfl
theorem an5 (b:aS) {n:List UInt8} {p:Pl} (h:placeOf n=some p):rW b n=QY b p:=by unfold rW;rw [h]
set_option maxHeartbeats 4000000 in
theorem arX (b:aS) (r:List GV) {n:List UInt8} {p:Pl} (hp:placeOf n=some p):agE b r n (QY b p=true):=by
 intro sp ns i ps out h h1 hw hn ha ih;have hI:=Qj hp;have hk:=(Ji n p hp).2.1;clear hp;induction p,hk using Jg<;>(refine ⟨λhc=>aB rfl rfl ?_,λhc=>aB rfl rfl ?_⟩<;>simp only [QY,DK,decide_eq_true_iff,wK] at hc)
 all_goals first
  | (have hc:=eq_true hc;simp [h1,h,hn,hw,ha,hc,hI,ih];done)
  | (rw [hc] at ih;simp [h1,h,hn,hw,ha,hc,hI,ih];done)
  | (simp [h1,h,hn,ha,hc,hI];done)
theorem adx (b:aS) (r:List GV) (sp:GV) (ns:List (List UInt8)) (hlen:ns.length<=1000) (hns:∀n∈ns,placeOf n≠none) (ps:List (List UInt8)):∀ (m i:Nat),i+m=ns.length->
 TT.lim 66 [sp,.l (ns.map .s),.i .i64 ns.length,.i .i64 i,.l (sQ ps),.i .i64 b.kind,.i .u64 b.id,.i .u64 b.min,.i .u64 b.max,.i .u64 b.chosen,.i .u64 b.flags,.i .u64 b.cost,.i .u64 b.priority,.i .u64 b.deadline,.i .u64 b.retry,.i .u64 b.epoch,.i .u64 b.base,.i .u64 b.digest,.i .u64 b.lag,.i .u64 b.code,.i .u64 b.want,.i .i64 b.remaining,.b b.allowed,.s b.name,.s b.region,.s b.note,.l (b.d.map ent),.l (b.t.map row),.l r]=some (if (ns.drop i).all (λn=>decide (n∈ps) || rW b n)=true then [.i .i64 1] else [.i .i64 0])
 | 0,i,hi=>by
   have h0:ns.drop i=[]:=fJ (by omega);refine aB rfl rfl ?_;have h:¬ ((i:Int) < ns.length):=by omega
   simp -implicitDefEqProofs [h,h0]
 | m+1,i,hi=>by
   have hlt:i < ns.length:=by omega
   have ih:=adx b r sp ns hlen hns ps m (i+1) (by omega);have hcast:((i:Int)+1)=((i+1:Nat):Int):=by omega
   rw [<- hcast] at ih;have hd:(ns.drop i).all (λn=>decide (n∈ps) || rW b n)=((decide (ns[i]∈ps) || rW b ns[i])&&(ns.drop (i+1)).all (λn=>decide (n∈ps) || rW b n)):=by rw [iC hlt,sF]
   rw [hd];generalize (ns.drop (i+1)).all (λn=>decide (n∈ps) || rW b n)=X at *;by_cases hps:ns[i]∈ps
   ·have ha:=Ul ns[i] ps
    rw [aj hps] at ha;have h1:((i:Int) < ns.length):=by omega
    have hw:=wrap64 (n:=(i:Int)+1) (by omega) (by omega);rw [Ic hps,Bool.true_or,NC];refine aB rfl rfl ?_;simp -implicitDefEqProofs [h1,hlt,hw,ha,ih]
   ·have ha:=Ul ns[i] ps
    rw [ah hps] at ha;obtain ⟨p,hp⟩:=agB.1 (hns _ (gU hlt));have c1:=an5 b hp;obtain ⟨c3,c4⟩:=arX b r hp sp ns i ps _ hlt (by omega) (wrap64 (n:=(i:Int)+1) (by omega) (by omega)) rfl ha ih;rw [Ib hps,zV];cases hb:rW b ns[i] with
    | true=>rw [c3 (by rw [<- c1];exact hb),NC]
    | false=>rw [c4 (by rw [<- c1,hb];decide),Bool.false_and];rfl
def D6 (b:aS) (r:List GV) (k:Nat) (out:List GV):Prop:=TT.lim k [.i .i64 b.kind,.i .u64 b.id,.i .u64 b.min,.i .u64 b.max,.i .u64 b.chosen,.i .u64 b.flags,.i .u64 b.cost,.i .u64 b.priority,.i .u64 b.deadline,.i .u64 b.retry,.i .u64 b.epoch,.i .u64 b.base,.i .u64 b.digest,.i .u64 b.lag,.i .u64 b.code,.i .u64 b.want,.i .i64 b.remaining,.b b.allowed,.s b.name,.s b.region,.s b.note,.l (b.d.map ent),.l (b.t.map row),.l r]=some out
theorem am7 (b:aS) {n:List UInt8} {p:Pl} (h:placeOf n=some p):zq b n=sZ b p:=by unfold zq;rw [h]
set_option maxHeartbeats 4000000 in
theorem am9 (b:aS) (r:List GV) (hb:qW b) (hf:∀r∈b.t,iq r.1=true):(∀k∈[68,69,75,76,77,78,79,80,81,82,83,84,85,86,87,88,89],D6 b r k [.i .i64 0])/\D6 b r 70 [.i .i64 0,.i .i64 (sZ b .name)]/\D6 b r 71 [.i .i64 0,.i .i64 (sZ b .region)]/\D6 b r 72 [.i .i64 0,.i .i64 (sZ b .note)]/\D6 b r 73 [.i .i64 0,.i .i64 (sZ b .d)]/\D6 b r 74 [.i .i64 0,.i .i64 (sZ b .t)]:=by
 have h1:=CX b.name 0 256 hb.name;have h2:=CX b.region 0 256 hb.region;have h3:=CX b.note 0 256 hb.note;have h4:=aaK b.d hb.d;have h5:=OQ b.t hb.t hf;refine ⟨λk hk=>?_,aB rfl rfl ?_,aB rfl rfl ?_,aB rfl rfl ?_,aB rfl rfl ?_,aB rfl rfl ?_⟩
 ·simp only [bC,List.not_mem_nil,or_false] at hk
  rcases hk with rfl | rfl | rfl | rfl | rfl | rfl | rfl | rfl | rfl | rfl | rfl | rfl | rfl | rfl | rfl | rfl | rfl<;>(refine aB rfl rfl ?_;simp)
 ·simp -implicitDefEqProofs [sZ,h1]
 ·simp -implicitDefEqProofs [sZ,h2]
 ·simp -implicitDefEqProofs [sZ,h3]
 ·by_cases e:b.d=[]
  ·simp -implicitDefEqProofs [sZ,e]
  ·have e2:¬ (List.map ent b.d)=[]:=by simpa using e
   have e3:0 < b.d.length:=NM.2 e;simp -implicitDefEqProofs [sZ,e,h4]
 ·simp -implicitDefEqProofs [sZ,h5]
/-- One round of the third loop. -/
def agF (b:aS) (r:List GV) (n:List UInt8) (c:Int):Prop:=∀ (l:List eG) (i:Nat) (out:List GV) (h:i < l.length),((i:Int) < l.length)->IntKind.i64.wrap ((i:Int)+1)=(i:Int)+1->l[i].name=n->
    TT.lim 67 [.l (l.map dZ),.i .i64 l.length,.i .i64 ((i:Int)+1),.i .i64 b.kind,.i .u64 b.id,.i .u64 b.min,.i .u64 b.max,.i .u64 b.chosen,.i .u64 b.flags,.i .u64 b.cost,.i .u64 b.priority,.i .u64 b.deadline,.i .u64 b.retry,.i .u64 b.epoch,.i .u64 b.base,.i .u64 b.digest,.i .u64 b.lag,.i .u64 b.code,.i .u64 b.want,.i .i64 b.remaining,.b b.allowed,.s b.name,.s b.region,.s b.note,.l (b.d.map ent),.l (b.t.map row),.l r]=some out->
    TT.lim 67 [.l (l.map dZ),.i .i64 l.length,.i .i64 i,.i .i64 b.kind,.i .u64 b.id,.i .u64 b.min,.i .u64 b.max,.i .u64 b.chosen,.i .u64 b.flags,.i .u64 b.cost,.i .u64 b.priority,.i .u64 b.deadline,.i .u64 b.retry,.i .u64 b.epoch,.i .u64 b.base,.i .u64 b.digest,.i .u64 b.lag,.i .u64 b.code,.i .u64 b.want,.i .i64 b.remaining,.b b.allowed,.s b.name,.s b.region,.s b.note,.l (b.d.map ent),.l (b.t.map row),.l r]=some (if c=0 then out else [.i .i64 0,.i .i64 c])
set_option maxHeartbeats 4000000 in
theorem arY (b:aS) (r:List GV) (hb:qW b) (hf:∀r∈b.t,iq r.1=true) {n:List UInt8} {p:Pl} (hp:placeOf n=some p):agF b r n (sZ b p):=by
 intro l i out h h1 hw hn ih;obtain ⟨m0,m1,m2,m3,m4,m5⟩:=am9 b r hb hf;simp only [List.forall_mem_cons,D6] at m0 m1 m2 m3 m4 m5;have hI:=Qj hp;have hk:=(Ji n p hp).2.1;clear hp;generalize hc':sZ b p=c at ih ⊢;induction p,hk using Jg
 all_goals first
  | (obtain rfl:0=c:=hc'
     rw [aj rfl];refine aB rfl rfl ?_;simp -implicitDefEqProofs [h1,h,hn,hw,hI,m0,ih];done)
  | (simp only [hc'] at m1 m2 m3 m4 m5
     by_cases hc:c=0
     ·subst hc
      rw [aj rfl];refine aB rfl rfl ?_;simp -implicitDefEqProofs [h1,h,hn,hw,hI,m1,m2,m3,m4,m5,ih]
     ·rw [ah hc]
      refine aB rfl rfl ?_;simp -implicitDefEqProofs [h1,h,hn,hw,hI,m1,m2,m3,m4,m5,hc])
/-- The first thing that is wrong with the values of names. -/
def oz (b:aS):List eG->Int
 | []=>0
 | s::l=>if zq b s.name=0 then oz b l else zq b s.name
theorem ady (b:aS) (r:List GV) (hb:qW b) (hf:∀r∈b.t,iq r.1=true) (l:List eG) (hlen:l.length<=1000) (hns:∀s∈l,placeOf s.name≠none):∀ (m i:Nat),i+m=l.length->
 TT.lim 67 [.l (l.map dZ),.i .i64 l.length,.i .i64 i,.i .i64 b.kind,.i .u64 b.id,.i .u64 b.min,.i .u64 b.max,.i .u64 b.chosen,.i .u64 b.flags,.i .u64 b.cost,.i .u64 b.priority,.i .u64 b.deadline,.i .u64 b.retry,.i .u64 b.epoch,.i .u64 b.base,.i .u64 b.digest,.i .u64 b.lag,.i .u64 b.code,.i .u64 b.want,.i .i64 b.remaining,.b b.allowed,.s b.name,.s b.region,.s b.note,.l (b.d.map ent),.l (b.t.map row),.l r]=some (if oz b (l.drop i)=0 then [.i .i64 1] else [.i .i64 0,.i .i64 (oz b (l.drop i))])
 | 0,i,hi=>by
   have h0:l.drop i=[]:=fJ (by omega);refine aB rfl rfl ?_;have h:¬ ((i:Int) < l.length):=by omega
   simp -implicitDefEqProofs [h,h0,oz]
 | m+1,i,hi=>by
   have hlt:i < l.length:=by omega
   have ih:=ady b r hb hf l hlen hns m (i+1) (by omega);have hcast:((i:Int)+1)=((i+1:Nat):Int):=by omega
   rw [<- hcast] at ih;obtain ⟨p,hp⟩:=agB.1 (hns _ (gU hlt));have:=arY b r hb hf hp l i _ hlt (by omega) (wrap64 (n:=(i:Int)+1) (by omega) (by omega)) rfl ih;rw [<- am7 b hp] at this;rw [this,iC hlt];by_cases hc:zq b l[i].name=0
   ·have hm:oz b (l[i]::l.drop (i+1))=oz b (l.drop (i+1)):=by simp only [oz,hc,if_true]
    rw [aj hc,hm]
   ·have hm:oz b (l[i]::l.drop (i+1))=zq b l[i].name:=by simp only [oz,hc,if_false]
    rw [ah hc,hm,ah hc]
def hasTag (l:List eG) (t:Int):Bool:=l.any λs=>decide (t=s.tag)
theorem adA (l:List eG) (hlen:l.length<=1000) (a1 a2 a3:GV) (t:Int) (a7 a8 a9 a10:GV):∀ (m i:Nat),i+m=l.length->
 TT.lim 95 [.l (l.map dZ),a1,a2,a3,.i .i64 l.length,.i .i64 i,.i .u64 t,a7,a8,a9,a10]=some (if hasTag (l.drop i) t=true then [.i .i64 0] else [.i .i64 1])
 | 0,i,hi=>by
   have h0:l.drop i=[]:=fJ (by omega);refine aB rfl rfl ?_;have h:¬ ((i:Int) < l.length):=by omega
   simp -implicitDefEqProofs [h,h0,hasTag]
 | m+1,i,hi=>by
   have hlt:i < l.length:=by omega
   have ih:=adA l hlen a1 a2 a3 t a7 a8 a9 a10 m (i+1) (by omega);have hcast:((i:Int)+1)=((i+1:Nat):Int):=by omega
   rw [<- hcast] at ih;have h1:((i:Int) < l.length):=by omega
   have hw:=wrap64 (n:=(i:Int)+1) (by omega) (by omega);have hd:hasTag (l.drop i) t=(decide (t=l[i].tag) || hasTag (l.drop (i+1)) t):=by rw [iC hlt];rfl
   rw [hd];generalize hasTag (l.drop (i+1)) t=X at *;refine aB rfl rfl ?_;by_cases hc:t=l[i].tag
   ·simp -implicitDefEqProofs [h1,hlt,hc]
   ·simp -implicitDefEqProofs [h1,hlt,hc,hw,ih]
theorem adz (l:List eG) (hlen:l.length<=1000) (fl:List aH) (hfl:fl.length<=1000000):∀ (m i:Nat),i+m=fl.length->
 TT.lim 94 [.l (l.map dZ),.l (aC fl),.i .i64 fl.length,.i .i64 i]=some (if (fl.drop i).any (λf=>hasTag l f.tag)=true then [.i .i64 0] else [.i .i64 1])
 | 0,i,hi=>by
   have h0:fl.drop i=[]:=fJ (by omega);refine aB rfl rfl ?_;have h:¬ ((i:Int) < fl.length):=by omega
   simp -implicitDefEqProofs [h,h0]
 | m+1,i,hi=>by
   have hlt:i < fl.length:=by omega
   have ih:=adz l hlen fl hfl m (i+1) (by omega);have hcast:((i:Int)+1)=((i+1:Nat):Int):=by omega
   rw [<- hcast] at ih;have h1:((i:Int) < fl.length):=by omega
   have hw:=wrap64 (n:=(i:Int)+1) (by omega) (by omega);have hd:(fl.drop i).any (λf=>hasTag l f.tag)=(hasTag l fl[i].tag || (fl.drop (i+1)).any (λf=>hasTag l f.tag)):=by rw [iC hlt,List.any_cons]
   rw [hd];have hget:(aC fl)[i]? = some (ng fl[i]):=by rw [zf,iF,bM hlt];rfl
   clear hd;obtain ⟨t,y,n,s,k,hfi⟩:∃t y n s k,fl[i]=aH.mk t y n s k:=by
    cases fl[i] with
    | mk t y n s k=>exact ⟨_,_,_,_,_,rfl⟩
   rw [hfi] at hget ⊢;rw [show (aH.mk t y n s k).tag=t from rfl];have h3:TT.lim 95 [.l (l.map dZ),.l (aC fl),.i .i64 fl.length,.i .i64 i,.i .i64 l.length,.i .i64 0,.i .u64 t,.i .i64 y,.i .u64 n,.s s,.l (aC k)]=_:=adA l hlen _ _ _ t _ _ _ _ l.length 0 (by omega);rw [dO] at h3;refine aB rfl rfl ?_;by_cases hc:hasTag l t=true
   ·rw [aj hc] at h3
    simp -implicitDefEqProofs [-List.any_eq_true,h1,hget,h3,hc]
   ·rw [ah hc] at h3
    have hc:hasTag l t=false:=by simpa using hc
    simp -implicitDefEqProofs [-List.any_eq_true,h1,hget,h3,hw,ih,hc]
def En (b:aS):Int:=
 if b.kind=1 then (if b.min < 1 then 18 else if b.max < b.min then 18 else if 255 < b.max then 18 else 0)
 else if b.kind=2 then (if b.chosen < 1 then 18 else if 255 < b.chosen then 18 else 0)
 else if b.kind=3 then (if b.d=[] then 12 else 0)
 else if b.kind=5 then (if b.epoch < 1 then 18 else 0)
 else if b.kind=6 then (if b.base < 1 then 18 else if b.epoch<=b.base then 20 else 0)
 else 0
/-- What is said of a message at a version. -/
def Jo (sp:List eG) (fl:List aH):Int:=if jm 0 0 fl≠0 then jm 0 0 fl else if fl.any (λf=>hasTag sp f.tag)=true then 14 else 0
def iM (b:aS) (fl:List aH) (v:Int):Int:=
 if v < 1 then 16 else if 3 < v then 16 else
 if bI b.kind v=[] then 15 else
 if gQ.all (λn=>zh (bI b.kind v) n || rW b n)=false then 26 else
 if oz b (bI b.kind v)≠0 then oz b (bI b.kind v) else
 if En b≠0 then En b else Jo (bI b.kind v) fl
theorem anW:∀n∈gQ,placeOf n≠none:=by decide
theorem acU (k v:Int):∀s∈bI k v,placeOf s.name≠none:=by
 have key:∀s∈wC k,placeOf s.name≠none:=by
  unfold wC;repeat' split
  all_goals first | (unfold sp1;decide) | (unfold sp2;decide) | (unfold BK;decide) | (unfold BL;decide) | (unfold BM;decide) | (unfold BN;decide) | (unfold BO;decide) | (unfold BP;decide) | (intro s hs;cases hs)
 intro s hs;exact key s (GY.1 hs).1
theorem Dx (k v:Int):(bI k v).length<=8:=jw (TF _ _) (arP k)
set_option maxHeartbeats 4000000 in
theorem WO (b:aS) (fl:List aH) (v:Int) (hb:qW b) (hf:∀r∈b.t,iq r.1=true) (hok:dJ fl) (hlen:fl.length<=1000000):TT.lim 52 [gI b (aC fl),.i .i64 v]=some [.i .i64 (iM b fl v)]:=by
 have hk:=Wh b.kind;refine aQ rfl rfl ?_ rfl;unfold iM;by_cases v1:v < 1
 ·simp -implicitDefEqProofs [v1]
 by_cases v3:3 < v
 ·simp -implicitDefEqProofs [v1,v3]
 rw [ah v1,ah v3];have hnil:=acT b.kind v (by omega) (by omega);by_cases k0:pW b.kind=0
 ·rw [aj (hnil.2 (.inl k0))]
  rw [k0] at hk;simp -implicitDefEqProofs [v1,v3,hk]
 by_cases k1:v < pW b.kind
 ·rw [aj (hnil.2 (.inr k1))]
  simp -implicitDefEqProofs [v1,v3,hk,k0,k1]
 rw [ah (λe=>(hnil.1 e).elim k0 k1)];have hkn:=Qu b.kind v (by omega) (by omega) (by omega);have hpl:=acU b.kind v;have hl8:=Dx b.kind v;clear hnil;generalize bI b.kind v=sp at *;have hnm:=adM;have h0:=adw b (aC fl) sp (by omega) sp.length 0 [] (by omega);have h1:=adx b (aC fl) (.l (sp.map dZ)) gQ (by decide) anW (x9 [] sp) gQ.length 0 (by omega);have h2:=ady b (aC fl) hb hf sp (by omega) hpl sp.length 0 (by omega);have h3:=adz sp (by omega) fl hlen fl.length 0 (by omega);have h4:=Px fl hok hlen;rw [dO] at h0 h1 h2 h3;simp only [anb] at h1;have hnl:(gQ.map GV.s).length=gQ.length:=kR _;have hfl:=l9 fl;rw [<- hfl] at h3;generalize hX:x9 [] sp=ps at *;have h0':TT.lim 64 [.l (sp.map dZ),.i .i64 sp.length,.i .i64 0,.l [],.i .i64 b.kind,.i .u64 b.id,.i .u64 b.min,.i .u64 b.max,.i .u64 b.chosen,.i .u64 b.flags,.i .u64 b.cost,.i .u64 b.priority,.i .u64 b.deadline,.i .u64 b.retry,.i .u64 b.epoch,.i .u64 b.base,.i .u64 b.digest,.i .u64 b.lag,.i .u64 b.code,.i .u64 b.want,.i .i64 b.remaining,.b b.allowed,.s b.name,.s b.region,.s b.note,.l (b.d.map ent),.l (b.t.map row),.l (aC fl)]=some [.i .i64 0,.l (sQ ps)]:=h0;clear h0;have h1':TT.lim 66 [.l (sp.map dZ),.l (gQ.map .s),.i .i64 gQ.length,.i .i64 0,.l (sQ ps),.i .i64 b.kind,.i .u64 b.id,.i .u64 b.min,.i .u64 b.max,.i .u64 b.chosen,.i .u64 b.flags,.i .u64 b.cost,.i .u64 b.priority,.i .u64 b.deadline,.i .u64 b.retry,.i .u64 b.epoch,.i .u64 b.base,.i .u64 b.digest,.i .u64 b.lag,.i .u64 b.code,.i .u64 b.want,.i .i64 b.remaining,.b b.allowed,.s b.name,.s b.region,.s b.note,.l (b.d.map ent),.l (b.t.map row),.l (aC fl)]=_:=h1;clear h1;have h2':TT.lim 67 [.l (sp.map dZ),.i .i64 sp.length,.i .i64 0,.i .i64 b.kind,.i .u64 b.id,.i .u64 b.min,.i .u64 b.max,.i .u64 b.chosen,.i .u64 b.flags,.i .u64 b.cost,.i .u64 b.priority,.i .u64 b.deadline,.i .u64 b.retry,.i .u64 b.epoch,.i .u64 b.base,.i .u64 b.digest,.i .u64 b.lag,.i .u64 b.code,.i .u64 b.want,.i .i64 b.remaining,.b b.allowed,.s b.name,.s b.region,.s b.note,.l (b.d.map ent),.l (b.t.map row),.l (aC fl)]=_:=h2;clear h2;have h3':TT.lim 94 [.l (sp.map dZ),.l (aC fl),.i .i64 (aC fl).length,.i .i64 0]=_:=h3;clear h3;have hr:Jo sp fl=if jm 0 0 fl≠0 then jm 0 0 fl else if fl.any (λf=>hasTag sp f.tag)=true then 14 else 0:=rfl
 generalize (gQ.all λn=>zh sp n || rW b n)=A at *;generalize oz b sp=M at *;generalize jm 0 0 fl=F at *;generalize (fl.any λf=>hasTag sp f.tag)=W at *;generalize Jo sp fl=R at *;generalize gQ=NL at *;have avc:∀ (x:GV),True:=λ_=>trivial;cases A with
 | false=>
   simp only [fV,if_false] at h1';simp -implicitDefEqProofs [v1,v3,hk,k0,k1,hkn,hnm,h0',h1']
 | true=>
 simp only [if_true] at h1';by_cases hM:M=0;rotate_left
 ·rw [ah hM] at h2'
  simp -implicitDefEqProofs [v1,v3,hk,k0,k1,hkn,hnm,h0',h1',h2',hM]
 rw [aj hM] at h2';rw [ah (by simp),ah (by simp [hM])];clear hM
 -- the rest of it
 have key:∀ (c:Int),En b=c->c≠0->True:=λ_ _ _=>trivial;unfold En;by_cases e1:b.kind=1
 ·have e1:=eq_true e1
  by_cases c1:b.min < 1
  ·simp -implicitDefEqProofs [v1,v3,hk,k0,k1,hkn,hnm,h0',h1',h2',e1,c1]
  by_cases c2:b.max < b.min
  ·simp -implicitDefEqProofs [v1,v3,hk,k0,k1,hkn,hnm,h0',h1',h2',e1,c1,c2]
  by_cases c3:255 < b.max
  ·simp -implicitDefEqProofs [v1,v3,hk,k0,k1,hkn,hnm,h0',h1',h2',e1,c1,c2,c3]
  simp only [e1,c1,c2,c3,if_true,if_false,ne_eq,not_true_eq_false];rw [hr];by_cases hF:F=0
  ·subst hF
   cases W with
   | true=>simp only [if_true] at h3';simp [v1,v3,hk,k0,k1,hkn,hnm,h0',h1',h2',e1,c1,c2,c3,h4,h3']
   | false=>simp only [fV,if_false] at h3';simp [v1,v3,hk,k0,k1,hkn,hnm,h0',h1',h2',e1,c1,c2,c3,h4,h3']
  ·simp -implicitDefEqProofs [v1,v3,hk,k0,k1,hkn,hnm,h0',h1',h2',e1,c1,c2,c3,h4,hF]
 by_cases e2:b.kind=2
 ·have e2:=eq_true e2
  by_cases c1:b.chosen < 1
  ·simp -implicitDefEqProofs [v1,v3,hk,k0,k1,hkn,hnm,h0',h1',h2',e1,e2,c1]
  by_cases c2:255 < b.chosen
  ·simp -implicitDefEqProofs [v1,v3,hk,k0,k1,hkn,hnm,h0',h1',h2',e1,e2,c1,c2]
  simp only [e1,e2,c1,c2,if_true,if_false,ne_eq,not_true_eq_false];rw [hr];by_cases hF:F=0
  ·subst hF
   cases W with
   | true=>simp only [if_true] at h3';simp [v1,v3,hk,k0,k1,hkn,hnm,h0',h1',h2',e1,e2,c1,c2,h4,h3']
   | false=>simp only [fV,if_false] at h3';simp [v1,v3,hk,k0,k1,hkn,hnm,h0',h1',h2',e1,e2,c1,c2,h4,h3']
  ·simp -implicitDefEqProofs [v1,v3,hk,k0,k1,hkn,hnm,h0',h1',h2',e1,e2,c1,c2,h4,hF]
 by_cases e3:b.kind=3
 ·have e3:=eq_true e3
  by_cases c1:b.d=[]
  ·have c1:=eq_true c1
   simp -implicitDefEqProofs [v1,v3,hk,k0,k1,hkn,hnm,h0',h1',h2',e1,e2,e3,c1]
  simp only [e1,e2,e3,c1,if_true,if_false,ne_eq,not_true_eq_false];rw [hr];by_cases hF:F=0
  ·subst hF
   cases W with
   | true=>simp only [if_true] at h3';simp [v1,v3,hk,k0,k1,hkn,hnm,h0',h1',h2',e1,e2,e3,c1,h4,h3']
   | false=>simp only [fV,if_false] at h3';simp [v1,v3,hk,k0,k1,hkn,hnm,h0',h1',h2',e1,e2,e3,c1,h4,h3']
  ·simp -implicitDefEqProofs [v1,v3,hk,k0,k1,hkn,hnm,h0',h1',h2',e1,e2,e3,c1,h4,hF]
 by_cases e5:b.kind=5
 ·have e5:=eq_true e5
  by_cases c1:b.epoch < 1
  ·simp -implicitDefEqProofs [v1,v3,hk,k0,k1,hkn,hnm,h0',h1',h2',e1,e2,e3,e5,c1]
  simp only [e1,e2,e3,e5,c1,if_true,if_false,ne_eq,not_true_eq_false];rw [hr];by_cases hF:F=0
  ·subst hF
   cases W with
   | true=>simp only [if_true] at h3';simp [v1,v3,hk,k0,k1,hkn,hnm,h0',h1',h2',e1,e2,e3,e5,c1,h4,h3']
   | false=>simp only [fV,if_false] at h3';simp [v1,v3,hk,k0,k1,hkn,hnm,h0',h1',h2',e1,e2,e3,e5,c1,h4,h3']
  ·simp -implicitDefEqProofs [v1,v3,hk,k0,k1,hkn,hnm,h0',h1',h2',e1,e2,e3,e5,c1,h4,hF]
 by_cases e6:b.kind=6
 ·have e6:=eq_true e6
  by_cases c1:b.base < 1
  ·simp -implicitDefEqProofs [v1,v3,hk,k0,k1,hkn,hnm,h0',h1',h2',e1,e2,e3,e5,e6,c1]
  by_cases c2:b.epoch<=b.base
  ·simp -implicitDefEqProofs [v1,v3,hk,k0,k1,hkn,hnm,h0',h1',h2',e1,e2,e3,e5,e6,c1,c2]
  simp only [e1,e2,e3,e5,e6,c1,c2,if_true,if_false,ne_eq,not_true_eq_false];rw [hr];by_cases hF:F=0
  ·subst hF
   cases W with
   | true=>simp only [if_true] at h3';simp [v1,v3,hk,k0,k1,hkn,hnm,h0',h1',h2',e1,e2,e3,e5,e6,c1,c2,h4,h3']
   | false=>simp only [fV,if_false] at h3';simp [v1,v3,hk,k0,k1,hkn,hnm,h0',h1',h2',e1,e2,e3,e5,e6,c1,c2,h4,h3']
  ·simp -implicitDefEqProofs [v1,v3,hk,k0,k1,hkn,hnm,h0',h1',h2',e1,e2,e3,e5,e6,c1,c2,h4,hF]
 simp only [e1,e2,e3,e5,e6,if_false,ne_eq,not_true_eq_false];rw [hr];by_cases hF:F=0
 ·subst hF
  cases W with
  | true=>simp only [if_true] at h3';simp [v1,v3,hk,k0,k1,hkn,hnm,h0',h1',h2',e1,e2,e3,e5,e6,h4,h3']
  | false=>simp only [fV,if_false] at h3';simp [v1,v3,hk,k0,k1,hkn,hnm,h0',h1',h2',e1,e2,e3,e5,e6,h4,h3']
 ·simp -implicitDefEqProofs [v1,v3,hk,k0,k1,hkn,hnm,h0',h1',h2',e1,e2,e3,e5,e6,h4,hF]
def YQ (n:List UInt8):Int:=match placeOf n with
 | some p=>asU p
 | none=>-1
theorem amv (k v:Int):∀s∈bI k v,placeOf s.name≠none/\s.use=YQ s.name:=by
 have key:∀s∈wC k,placeOf s.name≠none/\s.use=YQ s.name:=by
  unfold wC;repeat' split
  all_goals first | (unfold sp1;decide) | (unfold sp2;decide) | (unfold BK;decide) | (unfold BL;decide) | (unfold BM;decide) | (unfold BN;decide) | (unfold BO;decide) | (unfold BP;decide) | (intro s hs;cases hs)
 intro s hs;exact key s (GY.1 hs).1
/-- The numbers with a sign, written by their bits. -/
theorem aty (x:Int) (h0 : -9223372036854775808<=x) (h1:x<=9223372036854775807):∃u w:Int,IntKind.u64.wrap x=u/\IntKind.u64.wrap (x.fdiv (2 ^ 63))=w/\fO .xor .u64 (IntKind.u64.wrap (u * 2 ^ 1)) w=some (.i .u64 (zz x)):=by
 have wr:∀y:Int,IntKind.u64.wrap y=y % 18446744073709551616:=λy=>by simp [IntKind.wrap,IntKind.signed,IntKind.bits]
 refine ⟨_,_,rfl,rfl, ?_⟩;rw [wr,wr,wr];unfold zz;have hb:IntKind.u64.bits=64:=rfl;by_cases h:0<=x
 ·have e1:x.fdiv (2 ^ 63)=0:=by
   rw [NH _ (by decide)];exact Int.ediv_eq_zero_of_lt h (by omega)
  rw [e1,aj h];have e2:x % 18446744073709551616 * 2 ^ 1 % 18446744073709551616=2 * x:=by omega
  rw [e2];simp only [fO,wr,hb];have e3:(BitVec.ofInt 64 (2 * x) ^^^ BitVec.ofInt 64 (0 % 18446744073709551616))=BitVec.ofInt 64 (2 * x):=by
   have:BitVec.ofInt 64 (0 % 18446744073709551616)=0#64:=rfl;rw [this,BitVec.xor_zero]
  show some (GV.i IntKind.u64 (((BitVec.ofInt 64 (2 * x) ^^^ BitVec.ofInt 64 (0 % 18446744073709551616)).toNat:Int) % 18446744073709551616))=_
  rw [e3,xC];congr 2;omega
 ·have e1:x.fdiv (2 ^ 63) = -1:=by
   rw [NH _ (by decide)];omega
  rw [e1,ah h];have e2:x % 18446744073709551616 * 2 ^ 1 % 18446744073709551616=2 * x+18446744073709551616:=by omega
  rw [e2];simp only [fO,wr,hb];have e3:(BitVec.ofInt 64 (2 * x+18446744073709551616) ^^^ BitVec.ofInt 64 (-1 % 18446744073709551616)) = ~~~ BitVec.ofInt 64 (2 * x+18446744073709551616):=by
   have:BitVec.ofInt 64 (-1 % 18446744073709551616)=BitVec.allOnes 64:=by decide
   rw [this,BitVec.xor_allOnes]
  show some (GV.i IntKind.u64 (((BitVec.ofInt 64 (2 * x+18446744073709551616) ^^^ BitVec.ofInt 64 (-1 % 18446744073709551616)).toNat:Int) % 18446744073709551616))=_
  rw [e3,BitVec.toNat_not,xC];congr 2;omega
def ZQ (b:aS) (r:List GV) (n:List UInt8) (p:Pl):Prop:=TT.lim 97 [gI b r,.s n]=some [.g [.i .u64 0,.i .i64 (eF p),.i .u64 (bZ b p).1,.s (bZ b p).2,.l []],.b true]
set_option maxHeartbeats 4000000 in
theorem anN (b:aS) (r:List GV) (hb:qW b) {n:List UInt8} {p:Pl} (hd:p=.d->iq b.d=true) (hf:p=.t->vG b.t) (hp:placeOf n=some p):ZQ b r n p:=by
 have hI:=Qj hp;have hk:=(Ji n p hp).2.1;unfold ZQ;clear hp;induction p,hk using Jg
 case h0=>
  obtain ⟨u,w,h1,h2,h3⟩:=aty b.remaining hb.remaining.1 hb.remaining.2;have h2:IntKind.u64.wrap (b.remaining.fdiv 9223372036854775808)=w:=h2;have h3:fO .xor .u64 (IntKind.u64.wrap (u * 2)) w=some (.i .u64 (zz b.remaining)):=h3;refine aQ rfl rfl ?_ rfl;simp -implicitDefEqProofs [hI,nJ,h1,h2,h3,IntKind.bits,eF,bZ]
 case h1=>
  refine aQ rfl rfl ?_ rfl;cases hc:b.allowed<;>simp [hI,eF,bZ,hc]
 case h5=>
  have hk:=AY b.d (hd rfl);refine aQ rfl rfl ?_ rfl;by_cases e:b.d=[]
  ·have e':=eq_true e
   simp -implicitDefEqProofs [hI,eF,bZ,e']
  ·simp -implicitDefEqProofs [hI,eF,bZ,e,hk]
 case h6=>
  have hk:=amx b.t hb.t (hf rfl);refine aQ rfl rfl ?_ rfl;by_cases e:b.t=[]
  ·have e':=eq_true e
   simp -implicitDefEqProofs [hI,eF,bZ,e']
  ·simp -implicitDefEqProofs [hI,eF,bZ,e,hk]
 all_goals
  refine aQ rfl rfl ?_ rfl;simp -implicitDefEqProofs [hI,eF,bZ,DK]
theorem anQ (b:aS) (r:List GV) {n:List UInt8} (hp:placeOf n=none):TT.lim 97 [gI b r,.s n]=some [.g [.i .u64 0,.i .i64 0,.i .u64 0,.s [],.l []],.b false]:=by
 have hI:=acJ hp;refine aQ rfl rfl ?_ rfl;simp -implicitDefEqProofs [hI]
abbrev It:=Int×Int×List UInt8
def ltI (a b:It):Bool:=if a.1=b.1 then decide (a.2.1 < b.2.1) else decide (a.1 < b.1)
def leI (a b:It):Prop:=ltI b a=false
def dI:It:=(0,0,[])
abbrev at_ (h:List It) (i:Nat):It:=h.getD i dI
def par (k:Nat):Nat:=(k - 1) / 2
def Heap (h:List It) (n:Nat):Prop:=∀k,0 < k->k < n->leI (at_ h (par k)) (at_ h k)
structure ZM (h L:List It) (n:Int):Prop where
 heap:Heap h h.length
 perm:L.Perm h
 srt:L.Pairwise (λx y=>ltI x y=true)
 low:∀x∈L,x.2.1 < n
theorem ZM.len {h L:List It} {n:Int} (s:ZM h L n):h.length=L.length:=s.perm.length_eq.symm
end M
end Go.Proofs.YtilkjidelblkfaaGreatDoor
