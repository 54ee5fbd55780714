/- What the trees compute: plain laws. -/
import Derived.Test.YtpkihgnabejkkaaGreatDoorKBe1
namespace Go.Proofs.YtpkihgnabejkkaaGreatDoor
open Go Go.aJ
set_option linter.unusedSimpArgs false
set_option linter.unusedVariables false
set_option maxRecDepth 100000
namespace B
/-- A text that stands next: the text, how many bytes it took, the code. -/
def bC (s:List UInt8):List UInt8×Nat×Int:=
 if (ak s).2.2≠0 then ([],0,(ak s).2.2) else
 if s.length - (ak s).2.1 < (ak s).1 then ([],0,1) else
 ((s.drop (ak s).2.1).take (ak s).1,(ak s).2.1+(ak s).1,0)
theorem BQ {s:List UInt8} (h:(bC s).2.2=0):1≤(bC s).2.1∧(bC s).2.1≤s.length∧(bC s).1.length≤s.length:=by
 unfold bC at h ⊢
 by_cases h1:(ak s).2.2=0
 rotate_left
 ·rw [if_pos h1] at h
  exact absurd h h1
 rw [if_neg (fun e=>e h1)] at h ⊢
 obtain ⟨v1,v2,v3,v4,v5⟩:=ji h1
 by_cases h2:s.length - (ak s).2.1 < (ak s).1
 ·rw [if_pos h2] at h;cases h
 rw [if_neg h2]
 simp only [List.length_take,List.length_drop]
 omega
theorem abT (t:List UInt8) (at':Nat) (h:at'≤t.length) (ht:t.length≤100000000) :
 ∃at2:Nat,TT.lim 93 [.s t,.i .i64 at']=some [.i .i64 0,.s (bC (t.drop at')).1,.i .i64 (bC (t.drop at')).2.2,.s t,.i .i64 at2]∧((bC (t.drop at')).2.2=0→at2=at'+(bC (t.drop at')).2.1):=by
 have k1:=Cb t at' h (by omega)
 unfold bC
 by_cases he:(ak (t.drop at')).2.2=0
 rotate_left
 ·obtain ⟨e1,e2⟩:=xW he
  rw [e1,e2] at k1
  rw [if_pos he]
  generalize (ak (t.drop at')).2.2=e at *
  refine ⟨at',ay rfl rfl ?_,fun h=>absurd h he⟩
  simp -implicitDefEqProofs [k1,he]
 obtain ⟨v1,v2,v3,v4,_⟩:=ji he
 rw [if_neg (fun e=>e he)]
 rw [he] at k1
 rw [List.length_drop] at v3 ⊢
 rw [List.drop_drop]
 generalize (ak (t.drop at')).1=n at *
 generalize (ak (t.drop at')).2.1=i at *
 have w1:=wrap64 (n:=(t.length:Int) - ((at':Int)+(i:Int))) (by omega) (by omega)
 have w2:=gK (n:=(t.length:Int) - ((at':Int)+(i:Int))) (by omega) (by omega)
 simp only [Int.natCast_add] at k1
 by_cases c1:t.length - at' - i < n
 ·have c1':(t.length:Int) - ((at':Int)+(i:Int)) < (n:Int):=by omega
  rw [if_pos c1]
  refine ⟨at'+i,ay rfl rfl ?_,fun h=>by cases h⟩
  simp -implicitDefEqProofs [k1,w1,w2,c1']
 ·have c1':¬ (t.length:Int) - ((at':Int)+(i:Int)) < (n:Int):=by omega
  rw [if_neg c1]
  have w3:=wrap64 (n:=(n:Int)) (by omega) (by omega)
  have w4:=wrap64 (n:=(at':Int)+(i:Int)+(n:Int)) (by omega) (by omega)
  have ts:((t.take (at'+i+n)).drop (at'+i))=(t.drop (at'+i)).take n:=by
   rw [List.drop_take]
   congr 1;omega
  have c2:(at':Int)+(i:Int)≤(at':Int)+(i:Int)+(n:Int)∧(at':Int)+(i:Int)+(n:Int)≤t.length:=by omega
  have c3:(0:Int)≤(at':Int)+(i:Int):=by omega
  have t1:((at':Int)+(i:Int)+(n:Int)).toNat=at'+i+n:=by omega
  have t2:((at':Int)+(i:Int)).toNat=at'+i:=by omega
  generalize (t.drop (at'+i)).take n=X at *
  refine ⟨at'+i+n,ay rfl rfl ?_,fun _=>by simp only;omega⟩
  simp -implicitDefEqProofs [k1,w1,w2,w3,w4,c1',c2,c3,t1,t2,ts]
/-- An entry that stands next. -/
def bn (s:List UInt8):bV×Nat×Int:=
 if (bC s).2.2≠0 then (([],[]),0,(bC s).2.2) else
 if (bC (s.drop (bC s).2.1)).2.2≠0 then (([],[]),0,(bC (s.drop (bC s).2.1)).2.2) else
 if mD ((bC s).1,(bC (s.drop (bC s).2.1)).1)≠0 then (([],[]),0,mD ((bC s).1,(bC (s.drop (bC s).2.1)).1)) else
 (((bC s).1,(bC (s.drop (bC s).2.1)).1),(bC s).2.1+(bC (s.drop (bC s).2.1)).2.1,0)
theorem Dx {s:List UInt8} (h:(bn s).2.2=0):2≤(bn s).2.1∧(bn s).2.1≤s.length∧mD (bn s).1=0∧(bn s).1.1.length≤s.length∧(bn s).1.2.length≤s.length∧
 (bC s).2.2=0∧(bC (s.drop (bC s).2.1)).2.2=0∧(bn s).1=((bC s).1,(bC (s.drop (bC s).2.1)).1)∧(bn s).2.1=(bC s).2.1+(bC (s.drop (bC s).2.1)).2.1:=by
 unfold bn at h ⊢
 by_cases h1:(bC s).2.2=0
 rotate_left
 ·rw [if_pos h1] at h;exact absurd h h1
 rw [if_neg (fun e=>e h1)] at h ⊢
 by_cases h2:(bC (s.drop (bC s).2.1)).2.2=0
 rotate_left
 ·rw [if_pos h2] at h;exact absurd h h2
 rw [if_neg (fun e=>e h2)] at h ⊢
 by_cases h3:mD ((bC s).1,(bC (s.drop (bC s).2.1)).1)=0
 rotate_left
 ·rw [if_pos h3] at h;exact absurd h h3
 rw [if_neg (fun e=>e h3)]
 obtain ⟨a1,a2,a3⟩:=BQ h1
 obtain ⟨b1,b2,b3⟩:=BQ h2
 rw [List.length_drop] at b2 b3
 exact ⟨by simp only;omega,by simp only;omega,h3,a3,by simp only;omega,h1,h2,rfl,rfl⟩
theorem aep (t:List UInt8) (at':Nat) (h:at'≤t.length) (ht:t.length≤100000000) :
 ∃at2:Nat,TT.lim 92 [.s t,.i .i64 at']=some [.i .i64 0,.s (bn (t.drop at')).1.1,.s (bn (t.drop at')).1.2,.i .i64 (bn (t.drop at')).2.2,.s t,.i .i64 at2]∧((bn (t.drop at')).2.2=0→at2=at'+(bn (t.drop at')).2.1):=by
 obtain ⟨p,k1,e1⟩:=abT t at' h ht
 unfold bn
 by_cases h1:(bC (t.drop at')).2.2=0
 rotate_left
 ·rw [if_pos h1]
  generalize bC (t.drop at')=A at *
  refine ⟨p,ay rfl rfl ?_,fun h=>absurd h h1⟩
  simp -implicitDefEqProofs [k1,h1]
 have e1:=e1 h1
 obtain ⟨a1,a2,a3⟩:=BQ h1
 rw [List.length_drop] at a2 a3
 have hdd:(t.drop at').drop (bC (t.drop at')).2.1=t.drop p:=by rw [List.drop_drop,e1]
 obtain ⟨q,k2,e2⟩:=abT t p (by omega) ht
 rw [if_neg (fun e=>e h1),hdd]
 rw [h1] at k1
 by_cases h2:(bC (t.drop p)).2.2=0
 rotate_left
 ·rw [if_pos h2]
  generalize bC (t.drop at')=A at *
  generalize bC (t.drop p)=B at *
  refine ⟨q,ay rfl rfl ?_,fun h=>absurd h h2⟩
  simp -implicitDefEqProofs [k1,k2,h2]
 have e2:=e2 h2
 obtain ⟨b1,b2,b3⟩:=BQ h2
 rw [List.length_drop] at b2 b3
 rw [if_neg (fun e=>e h2)]
 rw [h2] at k2
 have kc:=aer ((bC (t.drop at')).1,(bC (t.drop p)).1) (by simp only;omega) (by simp only;omega)
 have yR:TT.lim 27 [.g [.s (bC (t.drop at')).1,.s (bC (t.drop p)).1]]=_:=kc
 generalize bC (t.drop at')=A at *
 generalize bC (t.drop p)=B at *
 by_cases h3:mD (A.1,B.1)=0
 rotate_left
 ·rw [if_pos h3]
  refine ⟨q,ay rfl rfl ?_,fun h=>absurd h h3⟩
  generalize mD (A.1,B.1)=E at *
  simp -implicitDefEqProofs [k1,k2,yR,h3]
 ·rw [if_neg (fun e=>e h3)]
  rw [h3] at yR
  refine ⟨q,ay rfl rfl ?_,fun _=>by simp only;omega⟩
  simp -implicitDefEqProofs [k1,k2,yR]
def oI (p:Option bV) (x:bV):Int:=match p with
 | none=>0
 | some k=>oH k.1 x.1
/-- Entries by rising keys: what is read, how many bytes it took, the code. -/
def dF:Nat→Option bV→List UInt8→List bV×Nat×Int
 | 0,_,_=>([],0,0)
 | m+1,p,s=>if (bn s).2.2≠0 then ([],0,(bn s).2.2) else
   if oI p (bn s).1≠0 then ([],0,oI p (bn s).1) else
   if (dF m (some (bn s).1) (s.drop (bn s).2.1)).2.2≠0 then ([],0,(dF m (some (bn s).1) (s.drop (bn s).2.1)).2.2) else
   ((bn s).1::(dF m (some (bn s).1) (s.drop (bn s).2.1)).1,(bn s).2.1+(dF m (some (bn s).1) (s.drop (bn s).2.1)).2.1,0)
theorem FZ (m:Nat) (p:Option bV) (s:List UInt8):dF (m+1) p s=if (bn s).2.2≠0 then ([],0,(bn s).2.2) else
 if oI p (bn s).1≠0 then ([],0,oI p (bn s).1) else
 if (dF m (some (bn s).1) (s.drop (bn s).2.1)).2.2≠0 then ([],0,(dF m (some (bn s).1) (s.drop (bn s).2.1)).2.2) else
 ((bn s).1::(dF m (some (bn s).1) (s.drop (bn s).2.1)).1,(bn s).2.1+(dF m (some (bn s).1) (s.drop (bn s).2.1)).2.1,0):=rfl
def sQ (acc:List bV) (t:List UInt8) (at2:Nat) (r:List bV×Nat×Int):List GV:=if r.2.2≠0 then [.i .i64 0,.i .i64 r.2.2,.s t,.i .i64 at2] else [.i .i64 1,.l ((acc++r.1).map ent),.s t,.i .i64 at2]
theorem aem (L:List GV) (n i at' at2:Int) (t:List UInt8) (x:bV) (e:Int) (h:i < n) (he:¬ e=0)
 (k:TT.lim 92 [.s t,.i .i64 at']=some [.i .i64 0,.s x.1,.s x.2,.i .i64 e,.s t,.i .i64 at2]) :
 TT.lim 91 [.l L,.i .i64 n,.i .i64 i,.s t,.i .i64 at']=some [.i .i64 0,.i .i64 e,.s t,.i .i64 at2]:=by
 refine ay rfl rfl ?_
 simp -implicitDefEqProofs [h,k,he]
theorem aek (L:List GV) (n at' at2:Int) (t:List UInt8) (x:bV) (R:List GV) (h:0 < n) (hb:2 * (L.length+1) * 32≤281474976710656∧L.length+1≤281474976710656)
 (k:TT.lim 92 [.s t,.i .i64 at']=some [.i .i64 0,.s x.1,.s x.2,.i .i64 0,.s t,.i .i64 at2])
 (ih:TT.lim 91 [.l (L++[ent x]),.i .i64 n,.i .i64 1,.s t,.i .i64 at2]=some R) :
 TT.lim 91 [.l L,.i .i64 n,.i .i64 0,.s t,.i .i64 at']=some R:=by
 have he:GV.g [.s x.1,.s x.2]=ent x:=rfl
 have w1:=wrap64 (n:=1) (by omega) (by omega)
 refine ay rfl rfl ?_
 simp -implicitDefEqProofs [h,k,he,GV.fA,hb,w1,ih]
theorem ael (L:List GV) (n:Int) (i:Nat) (at' at2:Int) (t:List UInt8) (p x:bV) (h:(i:Int)+1 < n) (hi:i+1≤100000000) (hl:L.length=i+1) (hg:L[i]? = some (ent p)) (hb:¬ oH p.1 x.1=0)
 (k:TT.lim 92 [.s t,.i .i64 at']=some [.i .i64 0,.s x.1,.s x.2,.i .i64 0,.s t,.i .i64 at2]) :
 TT.lim 91 [.l L,.i .i64 n,.i .i64 ((i:Int)+1),.s t,.i .i64 at']=some [.i .i64 0,.i .i64 (oH p.1 x.1),.s t,.i .i64 at2]:=by
 have h0:(0:Int) < (i:Int)+1:=by omega
 have hii:(i:Int) < (i:Int)+1:=by omega
 have w:=wrap64 (n:=(i:Int)) (by omega) (by omega)
 have hgi:L[i]'(by omega)=ent p:=by have:=hg;rw [List.getElem?_eq_getElem (by omega)] at this;exact Option.some.inj this
 unfold oH at hb ⊢
 by_cases e1:x.1=p.1
 ·have e1':(x.1=p.1)=True:=eq_true e1
  clear e1
  refine ay rfl rfl ?_
  simp -implicitDefEqProofs [h,k,h0,hii,w,hl,hg,hgi,e1']
 ·by_cases e2:Op.bytesLess x.1 p.1=true
  ·refine ay rfl rfl ?_
   simp -implicitDefEqProofs [h,k,h0,hii,w,hl,hg,hgi,e1,e2]
  ·simp -implicitDefEqProofs [e1,e2] at hb
theorem aen (L:List GV) (n:Int) (i:Nat) (at' at2:Int) (t:List UInt8) (p x:bV) (R:List GV) (h:(i:Int)+1 < n) (hi:i+1≤100000000) (hl:(i:Int) < L.length) (hl2:L.length≤100000000) (hg:L[i]? = some (ent p)) (hb:oH p.1 x.1=0)
 (k:TT.lim 92 [.s t,.i .i64 at']=some [.i .i64 0,.s x.1,.s x.2,.i .i64 0,.s t,.i .i64 at2])
 (ih:TT.lim 91 [.l (L++[ent x]),.i .i64 n,.i .i64 ((i:Int)+1+1),.s t,.i .i64 at2]=some R) :
 TT.lim 91 [.l L,.i .i64 n,.i .i64 ((i:Int)+1),.s t,.i .i64 at']=some R:=by
 have h0:(0:Int) < (i:Int)+1:=by omega
 have hii:(i:Int) < (i:Int)+1:=by omega
 have w:=wrap64 (n:=(i:Int)) (by omega) (by omega)
 have w2:=wrap64 (n:=(i:Int)+1+1) (by omega) (by omega)
 have hl3:i < L.length:=by omega
 have hgi:L[i]=ent p:=by have:=hg;rw [List.getElem?_eq_getElem hl3] at this;exact Option.some.inj this
 have he:GV.g [.s x.1,.s x.2]=ent x:=rfl
 have hbb:2 * (L.length+1) * 32≤281474976710656∧L.length+1≤281474976710656:=by omega
 unfold oH at hb
 have e1:¬ x.1=p.1:=by intro e;rw [if_pos e] at hb;exact absurd hb (by decide)
 rw [if_neg e1] at hb
 have e2:¬ Op.bytesLess x.1 p.1=true:=by intro e;rw [if_pos e] at hb;exact absurd hb (by decide)
 have e2:Op.bytesLess x.1 p.1=false:=by simpa using e2
 refine ay rfl rfl ?_
 simp -implicitDefEqProofs [h,k,h0,hii,w,w2,hl,hl3,hg,hgi,e1,e2,he,GV.fA,hbb,ih]
/-- What is ahead. -/
def Zt (acc:List bV) (p:Option bV):Prop:=(acc=[]∧p=none)∨∃a x,acc=a++[x]∧p=some x
theorem XI (t:List UInt8) (ht:t.length≤100000000) (n:Nat) (hn:n≤1000):∀ (m:Nat) (acc:List bV) (p:Option bV) (at':Nat),acc.length+m=n→Zt acc p→at'≤t.length→
 ∃at2:Nat,TT.lim 91 [.l (acc.map ent),.i .i64 n,.i .i64 acc.length,.s t,.i .i64 at']=some (sQ acc t at2 (dF m p (t.drop at')))∧((dF m p (t.drop at')).2.2=0→at2=at'+(dF m p (t.drop at')).2.1)
 | 0,acc,p,at',hi,hp,h=>by
   have hlt:¬ ((acc.length:Int) < (n:Int)):=by omega
   refine ⟨at', ?_,fun _=>by simp [dF]⟩
   have hl:(acc.map ent).length=acc.length:=by simp
   unfold dF sQ
   simp only [ne_eq,not_true_eq_false,if_false,List.append_nil]
   generalize acc.map ent=L at *
   refine ay rfl rfl ?_
   simp -implicitDefEqProofs [hlt]
 | m+1,acc,p,at',hi,hp,h=>by
   obtain ⟨at2,k,e2⟩:=aep t at' h ht
   rw [FZ]
   by_cases h1:(bn (t.drop at')).2.2=0
   rotate_left
   ·rw [if_pos h1]
    refine ⟨at2, ?_,fun h=>absurd h h1⟩
    have:sQ acc t at2 ([],0,(bn (t.drop at')).2.2)=[.i .i64 0,.i .i64 (bn (t.drop at')).2.2,.s t,.i .i64 at2]:=by unfold sQ;rw [if_pos h1]
    rw [this]
    exact aem _ _ _ _ _ _ _ _ (by omega) h1 k
   rw [if_neg (fun e=>e h1)]
   rw [h1] at k
   have e2:=e2 h1
   obtain ⟨a1,a2,_⟩:=Dx h1
   rw [List.length_drop] at a2
   have hdd:(t.drop at').drop (bn (t.drop at')).2.1=t.drop at2:=by rw [List.drop_drop,e2]
   rw [hdd]
   have hat:at2≤t.length:=by omega
   generalize hX:(bn (t.drop at')).1=x at *
   obtain ⟨at3,ih,e3⟩:=XI t ht n hn m (acc++[x]) (some x) at2 (by rw [List.length_append,List.length_singleton];omega) (.inr ⟨acc,x,rfl,rfl⟩) hat
   have hout:sQ acc t at3 (if (dF m (some x) (t.drop at2)).2.2≠0 then ([],0,(dF m (some x) (t.drop at2)).2.2) else (x::(dF m (some x) (t.drop at2)).1,(bn (t.drop at')).2.1+(dF m (some x) (t.drop at2)).2.1,0))=sQ (acc++[x]) t at3 (dF m (some x) (t.drop at2)):=by
    unfold sQ
    by_cases hq:(dF m (some x) (t.drop at2)).2.2=0
    ·simp -implicitDefEqProofs [hq]
    ·simp -implicitDefEqProofs [hq]
   have hfin:((if (dF m (some x) (t.drop at2)).2.2≠0 then (([]:List bV),0,(dF m (some x) (t.drop at2)).2.2) else (x::(dF m (some x) (t.drop at2)).1,(bn (t.drop at')).2.1+(dF m (some x) (t.drop at2)).2.1,0)).2.2=0→at3=at'+(if (dF m (some x) (t.drop at2)).2.2≠0 then (([]:List bV),0,(dF m (some x) (t.drop at2)).2.2) else (x::(dF m (some x) (t.drop at2)).1,(bn (t.drop at')).2.1+(dF m (some x) (t.drop at2)).2.1,0)).2.1):=by
    by_cases hq:(dF m (some x) (t.drop at2)).2.2=0
    ·rw [if_neg (fun e=>e hq)]
     intro _
     have:=e3 hq
     simp only
     omega
    ·rw [if_pos hq]
     intro h
     exact absurd h hq
   rw [List.map_append] at ih
   rcases hp with ⟨rfl,rfl⟩ | ⟨a,y,rfl,rfl⟩
   ·have hb0:oI none x=0:=rfl
    rw [hb0,if_neg (by simp)]
    refine ⟨at3, ?_,hfin⟩
    rw [hout]
    exact aek [] n at' at2 t x _ (by simp at hi;omega) (by simp) k ih
   ·by_cases hb:oH y.1 x.1=0
    rotate_left
    ·have hb':oI (some y) x≠0:=hb
     rw [if_pos hb']
     refine ⟨at2, ?_,fun h=>absurd h hb⟩
     have:sQ (a++[y]) t at2 ([],0,oI (some y) x)=[.i .i64 0,.i .i64 (oH y.1 x.1),.s t,.i .i64 at2]:=by unfold sQ;rw [if_pos hb'];rfl
     rw [this]
     have hl:((a++[y]).length:Int)=(a.length:Int)+1:=by simp
     rw [hl]
     rw [List.length_append,List.length_singleton] at hi
     exact ael _ n a.length at' at2 t y x (by omega) (by omega) (by simp) (by simp) hb k
    ·have hb':¬ oI (some y) x≠0:=fun e=>e hb
     rw [if_neg hb']
     refine ⟨at3, ?_,hfin⟩
     rw [hout]
     have hl:((a++[y]).length:Int)=(a.length:Int)+1:=by simp
     have hl2:((a++[y]++[x]).length:Int)=(a.length:Int)+1+1:=by simp;omega
     rw [hl]
     rw [hl2] at ih
     rw [List.length_append,List.length_singleton] at hi
     exact aen _ n a.length at' at2 t y x _ (by omega) (by omega) (by simp;omega) (by simp;omega) (by simp) hb k ih
def oK (e:Int):List bV×Nat×Int:=([],0,e)
/-- A descriptor that stands next. -/
def gU (s:List UInt8):List bV×Nat×Int:=
 if (ak s).2.2≠0 then oK (ak s).2.2 else
 if (ak s).1=0 then oK 12 else
 if 16 < (ak s).1 then oK 13 else
 if (dF (ak s).1 none (s.drop (ak s).2.1)).2.2≠0 then oK (dF (ak s).1 none (s.drop (ak s).2.1)).2.2 else
 ((dF (ak s).1 none (s.drop (ak s).2.1)).1,(ak s).2.1+(dF (ak s).1 none (s.drop (ak s).2.1)).2.1,0)
theorem aei (t:List UInt8) (at':Nat) (h:at'≤t.length) (ht:t.length≤100000000) :
 ∃at2:Nat,TT.lim 87 [.s t,.i .i64 at']=some [.i .i64 0,.l ((gU (t.drop at')).1.map ent),.i .i64 (gU (t.drop at')).2.2,.s t,.i .i64 at2]∧((gU (t.drop at')).2.2=0→at2=at'+(gU (t.drop at')).2.1):=by
 have k1:=Cb t at' h (by omega)
 unfold gU
 by_cases he:(ak (t.drop at')).2.2=0
 rotate_left
 ·obtain ⟨e1,e2⟩:=xW he
  rw [e1,e2] at k1
  rw [if_pos he]
  generalize (ak (t.drop at')).2.2=e at *
  refine ⟨at',ay rfl rfl ?_,fun h=>absurd h he⟩
  simp -implicitDefEqProofs [k1,he,oK]
 obtain ⟨v1,v2,v3,v4,_⟩:=ji he
 rw [if_neg (fun e=>e he)]
 rw [he] at k1
 rw [List.length_drop] at v3
 rw [List.drop_drop]
 by_cases h16:16 < (ak (t.drop at')).1
 ·have h0:¬ (ak (t.drop at')).1=0:=by omega
  have lH:(16:Int) < ((ak (t.drop at')).1:Nat):=by omega
  rw [if_neg h0,if_pos h16]
  generalize (ak (t.drop at')).1=n at *
  generalize (ak (t.drop at')).2.1=i at *
  refine ⟨at'+i,ay rfl rfl ?_,fun h=>by cases h⟩
  simp only [Int.natCast_add] at k1
  simp -implicitDefEqProofs [k1,h0,h16,lH,oK]
 obtain ⟨at2,k2,e2⟩:=XI t ht (ak (t.drop at')).1 (by omega) (ak (t.drop at')).1 [] none (at'+(ak (t.drop at')).2.1) (by simp) (.inl ⟨rfl,rfl⟩) (by omega)
 generalize (ak (t.drop at')).1=n at *
 generalize (ak (t.drop at')).2.1=i at *
 by_cases h0:n=0
 ·rw [if_pos h0]
  have h0':((n:Int)=0)=True:=eq_true (by omega)
  refine ⟨at'+i,ay rfl rfl ?_,fun h=>by cases h⟩
  simp only [Int.natCast_add] at k1
  simp -implicitDefEqProofs [k1,h0,h0',oK]
 rw [if_neg h0,if_neg h16]
 have lH:¬ (16:Int) < (n:Int):=by omega
 have w:=wrap64 (n:=(n:Int)) (by omega) (by omega)
 have hc:(0:Int)≤(n:Int)∧32 * (n:Int)≤281474976710656∧(n:Int)≤1152921504606846976:=by omega
 have k2':TT.lim 91 [.l [],.i .i64 n,.i .i64 0,.s t,.i .i64 ((at':Int)+(i:Int))]=_:=k2
 generalize hdl:dF n none (t.drop (at'+i))=r at *
 refine ⟨at2,ay rfl rfl ?_,fun h=>?_⟩
 ·simp only [Int.natCast_add] at k1
  unfold sQ at k2'
  by_cases hq:r.2.2=0
  ·simp only [hq,ne_eq,not_true_eq_false,if_false,List.nil_append] at k2' ⊢
   simp -implicitDefEqProofs [k1,h0,h16,lH,w,hc,k2',GV.fA]
  ·simp only [hq,ne_eq,not_false_eq_true,if_true] at k2' ⊢
   simp -implicitDefEqProofs [k1,h0,h16,lH,w,hc,k2',GV.fA,oK]
 ·by_cases hq:r.2.2=0
  ·rw [if_neg (fun e=>e hq)]
   have:=e2 hq
   simp only
   omega
  ·rw [if_pos hq] at h
   exact absurd h hq
/-- A whole text, as a descriptor. -/
def gV (s:List UInt8):List bV×Int:=
 if (gU s).2.2≠0 then ([],(gU s).2.2) else if (gU s).2.1 < s.length then ([],10) else ((gU s).1,0)
theorem Lc:∀ (m:Nat) (p:Option bV) (s:List UInt8),(dF m p s).2.2=0→(dF m p s).2.1≤s.length∧(dF m p s).1.length=m∧∀x∈(dF m p s).1,mD x=0∧x.1.length≤s.length∧x.2.length≤s.length
 | 0,p,s,_=>by simp [dF]
 | m+1,p,s,h=>by
   rw [FZ] at h ⊢
   by_cases h1:(bn s).2.2=0
   rotate_left
   ·rw [if_pos h1] at h;exact absurd h h1
   rw [if_neg (fun e=>e h1)] at h ⊢
   by_cases h2:oI p (bn s).1=0
   rotate_left
   ·rw [if_pos h2] at h;exact absurd h h2
   rw [if_neg (fun e=>e h2)] at h ⊢
   by_cases h3:(dF m (some (bn s).1) (s.drop (bn s).2.1)).2.2=0
   rotate_left
   ·rw [if_pos h3] at h;exact absurd h h3
   rw [if_neg (fun e=>e h3)]
   obtain ⟨a1,a2,a3,a4,a5,_⟩:=Dx h1
   obtain ⟨b1,b2,b3⟩:=Lc m (some (bn s).1) _ h3
   rw [List.length_drop] at b1
   refine ⟨by simp only;omega,by simp [b2],fun x hx=>?_⟩
   rcases List.mem_cons.1 hx with rfl | hx
   ·exact ⟨a3,a4,a5⟩
   ·obtain ⟨c1,c2,c3⟩:=b3 x hx
    rw [List.length_drop] at c2 c3
    exact ⟨c1,by omega,by omega⟩
theorem XK {s:List UInt8} (h:(gU s).2.2=0):(ak s).2.2=0∧0 < (ak s).1∧(ak s).1≤16∧(dF (ak s).1 none (s.drop (ak s).2.1)).2.2=0∧(gU s).1=(dF (ak s).1 none (s.drop (ak s).2.1)).1∧
 (gU s).2.1=(ak s).2.1+(dF (ak s).1 none (s.drop (ak s).2.1)).2.1∧(gU s).2.1≤s.length:=by
 unfold gU at h ⊢
 by_cases h1:(ak s).2.2=0
 rotate_left
 ·rw [if_pos h1] at h;exact absurd h h1
 rw [if_neg (fun e=>e h1)] at h ⊢
 by_cases h2:(ak s).1=0
 ·rw [if_pos h2] at h;exact absurd h (by simp [oK])
 rw [if_neg h2] at h ⊢
 by_cases h3:16 < (ak s).1
 ·rw [if_pos h3] at h;exact absurd h (by simp [oK])
 rw [if_neg h3] at h ⊢
 by_cases h4:(dF (ak s).1 none (s.drop (ak s).2.1)).2.2=0
 rotate_left
 ·rw [if_pos h4] at h;exact absurd h h4
 rw [if_neg (fun e=>e h4)]
 obtain ⟨v1,v2,v3,_,_⟩:=ji h1
 obtain ⟨d1,_,_⟩:=Lc _ _ _ h4
 rw [List.length_drop] at d1
 exact ⟨h1,by omega,by omega,h4,rfl,rfl,by simp only;omega⟩
theorem XL (s:List UInt8) (hs:s.length≤100000000):TT.lim 86 [.s s]=some [.l ((gV s).1.map ent),.i .i64 (gV s).2]:=by
 obtain ⟨at2,k,e2⟩:=aei s 0 (by omega) hs
 rw [List.drop_zero,show ((0:Nat):Int)=0 from rfl] at k
 rw [List.drop_zero] at e2
 unfold gV
 by_cases h1:(gU s).2.2=0
 rotate_left
 ·rw [if_pos h1]
  generalize gU s=r at *
  refine aA rfl rfl ?_ (by rfl)
  simp -implicitDefEqProofs [k,h1]
 have e2:=e2 h1
 obtain ⟨_,_,_,_,_,_,a7⟩:=XK h1
 rw [if_neg (fun e=>e h1)]
 rw [h1] at k
 rw [Nat.zero_add] at e2
 have w:=wrap64 (n:=(s.length:Int) - (at2:Int)) (by omega) (by omega)
 rw [← e2] at a7 ⊢
 generalize gU s=r at *
 by_cases h2:at2 < s.length
 ·rw [if_pos h2]
  refine aA rfl rfl ?_ rfl
  simp -implicitDefEqProofs [k,w,h2]
 ·rw [if_neg h2]
  refine aA rfl rfl ?_ rfl
  simp -implicitDefEqProofs [k,w,h2]
def pV (e:Int):Row×Nat×Int:=(([],0),0,e)
/-- The row of a key, whose number stands next. -/
def dN (key s:List UInt8):Row×Nat×Int:=
 if (gV key).2≠0 then pV (gV key).2 else
 if (ak s).2.2≠0 then pV (ak s).2.2 else
 if (ak s).1=0 then pV 17 else (((gV key).1,((ak s).1:Nat)),(ak s).2.1,0)
theorem OL {key s:List UInt8} (h:(dN key s).2.2=0):(gV key).2=0∧(ak s).2.2=0∧(ak s).1≠0∧(dN key s).1=((gV key).1,(((ak s).1:Nat):Int))∧(dN key s).2.1=(ak s).2.1:=by
 unfold dN at h ⊢
 by_cases h1:(gV key).2=0
 rotate_left
 ·rw [if_pos h1] at h;exact absurd h h1
 rw [if_neg (fun e=>e h1)] at h ⊢
 by_cases h2:(ak s).2.2=0
 rotate_left
 ·rw [if_pos h2] at h;exact absurd h h2
 rw [if_neg (fun e=>e h2)] at h ⊢
 by_cases h3:(ak s).1=0
 ·rw [if_pos h3] at h;exact absurd h (by simp [pV])
 rw [if_neg h3]
 exact ⟨h1,h2,h3,rfl,rfl⟩
theorem rowP (key t:List UInt8) (at':Nat) (h:at'≤t.length) (ht:t.length≤100000000) (hk:key.length≤100000000) :
 ∃at2:Nat,TT.lim 98 [.s key,.s t,.i .i64 at']=some [.i .i64 0,.l ((dN key (t.drop at')).1.1.map ent),.i .u64 (dN key (t.drop at')).1.2,.i .i64 (dN key (t.drop at')).2.2,.s t,.i .i64 at2]∧
  ((dN key (t.drop at')).2.2=0→at2=at'+(dN key (t.drop at')).2.1):=by
 have k1:=XL key hk
 have k2:=Cb t at' h (by omega)
 unfold dN
 generalize gV key=D at *
 by_cases h1:D.2=0
 rotate_left
 ·rw [if_pos h1]
  refine ⟨at',ay rfl rfl ?_,fun h=>absurd h h1⟩
  simp -implicitDefEqProofs [k1,h1,pV]
 rw [if_neg (fun e=>e h1)]
 by_cases h2:(ak (t.drop at')).2.2=0
 rotate_left
 ·obtain ⟨e1,e2⟩:=xW h2
  rw [e1,e2] at k2
  rw [if_pos h2]
  generalize ak (t.drop at')=V at *
  refine ⟨at',ay rfl rfl ?_,fun h=>absurd h h2⟩
  simp -implicitDefEqProofs [k1,k2,h1,h2,pV]
 rw [if_neg (fun e=>e h2)]
 rw [h2] at k2
 simp only [Int.natCast_add] at k2
 generalize ak (t.drop at')=V at *
 by_cases h3:V.1=0
 ·rw [if_pos h3]
  rw [h3] at k2
  refine ⟨at'+V.2.1,ay rfl rfl ?_,fun h=>by cases h⟩
  simp -implicitDefEqProofs [k1,k2,h1,pV]
 ·rw [if_neg h3]
  refine ⟨at'+V.2.1,ay rfl rfl ?_,fun _=>rfl⟩
  simp -implicitDefEqProofs [k1,k2,h1,h3]
/-- Rows, one behind the other. -/
def dM:Nat→List UInt8→Bool→List UInt8→List Row×Nat×Int
 | 0,_,_,_=>([],0,0)
 | m+1,a,first,s=>if (aS s a first).2.2≠0 then ([],0,(aS s a first).2.2) else
   if (dN (aS s a first).1 (s.drop (aS s a first).2.1)).2.2≠0 then ([],0,(dN (aS s a first).1 (s.drop (aS s a first).2.1)).2.2) else
   if (dM m (aS s a first).1 false (s.drop ((aS s a first).2.1+(dN (aS s a first).1 (s.drop (aS s a first).2.1)).2.1))).2.2≠0 then ([],0,(dM m (aS s a first).1 false (s.drop ((aS s a first).2.1+(dN (aS s a first).1 (s.drop (aS s a first).2.1)).2.1))).2.2) else
   ((dN (aS s a first).1 (s.drop (aS s a first).2.1)).1::(dM m (aS s a first).1 false (s.drop ((aS s a first).2.1+(dN (aS s a first).1 (s.drop (aS s a first).2.1)).2.1))).1,
    (aS s a first).2.1+(dN (aS s a first).1 (s.drop (aS s a first).2.1)).2.1+(dM m (aS s a first).1 false (s.drop ((aS s a first).2.1+(dN (aS s a first).1 (s.drop (aS s a first).2.1)).2.1))).2.1,0)
theorem H8 (m:Nat) (a:List UInt8) (first:Bool) (s:List UInt8):dM (m+1) a first s=if (aS s a first).2.2≠0 then ([],0,(aS s a first).2.2) else
 if (dN (aS s a first).1 (s.drop (aS s a first).2.1)).2.2≠0 then ([],0,(dN (aS s a first).1 (s.drop (aS s a first).2.1)).2.2) else
 if (dM m (aS s a first).1 false (s.drop ((aS s a first).2.1+(dN (aS s a first).1 (s.drop (aS s a first).2.1)).2.1))).2.2≠0 then ([],0,(dM m (aS s a first).1 false (s.drop ((aS s a first).2.1+(dN (aS s a first).1 (s.drop (aS s a first).2.1)).2.1))).2.2) else
 ((dN (aS s a first).1 (s.drop (aS s a first).2.1)).1::(dM m (aS s a first).1 false (s.drop ((aS s a first).2.1+(dN (aS s a first).1 (s.drop (aS s a first).2.1)).2.1))).1,
  (aS s a first).2.1+(dN (aS s a first).1 (s.drop (aS s a first).2.1)).2.1+(dM m (aS s a first).1 false (s.drop ((aS s a first).2.1+(dN (aS s a first).1 (s.drop (aS s a first).2.1)).2.1))).2.1,0):=rfl
def sU (acc:List Row) (t:List UInt8) (at2:Nat) (r:List Row×Nat×Int):List GV:=if r.2.2≠0 then [.i .i64 0,.i .i64 r.2.2,.s t,.i .i64 at2] else [.i .i64 1,.l ((acc++r.1).map row),.s t,.i .i64 at2]
theorem aiI (L:List GV) (a t X:List UInt8) (n i at' at2:Int) (first:Bool) (e:Int) (h:i < n) (hf:decide (i=0)=first) (he:¬ e=0)
 (k:TT.lim 97 [.s t,.i .i64 at',.s a,.b first]=some [.i .i64 0,.s X,.i .i64 e,.s t,.i .i64 at2]) :
 TT.lim 96 [.l L,.s a,.i .i64 n,.i .i64 i,.s t,.i .i64 at']=some [.i .i64 0,.i .i64 e,.s t,.i .i64 at2]:=by
 refine ay rfl rfl ?_
 simp -implicitDefEqProofs [h,hf,k,he]
theorem aiK (L:List GV) (a t X:List UInt8) (D:List GV) (N:Int) (n i at' at2 at3:Int) (first:Bool) (e:Int) (h:i < n) (hf:decide (i=0)=first) (he:¬ e=0)
 (k:TT.lim 97 [.s t,.i .i64 at',.s a,.b first]=some [.i .i64 0,.s X,.i .i64 0,.s t,.i .i64 at2])
 (k2:TT.lim 98 [.s X,.s t,.i .i64 at2]=some [.i .i64 0,.l D,.i .u64 N,.i .i64 e,.s t,.i .i64 at3]) :
 TT.lim 96 [.l L,.s a,.i .i64 n,.i .i64 i,.s t,.i .i64 at']=some [.i .i64 0,.i .i64 e,.s t,.i .i64 at3]:=by
 refine ay rfl rfl ?_
 simp -implicitDefEqProofs [h,hf,k,k2,he]
theorem aiJ (L:List GV) (a t X:List UInt8) (D:List GV) (N:Int) (n i at' at2 at3:Int) (first:Bool) (R:List GV) (h:i < n) (hf:decide (i=0)=first) (hw:IntKind.i64.wrap (i+1)=i+1) (hb:L.length≤100000000)
 (k:TT.lim 97 [.s t,.i .i64 at',.s a,.b first]=some [.i .i64 0,.s X,.i .i64 0,.s t,.i .i64 at2])
 (k2:TT.lim 98 [.s X,.s t,.i .i64 at2]=some [.i .i64 0,.l D,.i .u64 N,.i .i64 0,.s t,.i .i64 at3])
 (ih:TT.lim 96 [.l (L++[.g [.l D,.i .u64 N]]),.s X,.i .i64 n,.i .i64 (i+1),.s t,.i .i64 at3]=some R) :
 TT.lim 96 [.l L,.s a,.i .i64 n,.i .i64 i,.s t,.i .i64 at']=some R:=by
 have hbb:2 * (L.length+1) * 32≤281474976710656∧L.length+1≤281474976710656:=by omega
 refine ay rfl rfl ?_
 simp -implicitDefEqProofs [h,hf,k,k2,hw,GV.fA,hbb,ih]
theorem aay (t:List UInt8) (ht:t.length≤100000000) (n:Nat) (hn:n≤1000):∀ (m:Nat) (acc:List Row) (a:List UInt8) (at':Nat),acc.length+m=n→at'≤t.length→a.length≤at'→
 ∃at2:Nat,TT.lim 96 [.l (acc.map row),.s a,.i .i64 n,.i .i64 acc.length,.s t,.i .i64 at']=some (sU acc t at2 (dM m a (decide ((acc.length:Int)=0)) (t.drop at')))∧
  ((dM m a (decide ((acc.length:Int)=0)) (t.drop at')).2.2=0→at2=at'+(dM m a (decide ((acc.length:Int)=0)) (t.drop at')).2.1)
 | 0,acc,a,at',hi,h,ha=>by
   have hlt:¬ ((acc.length:Int) < (n:Int)):=by omega
   refine ⟨at', ?_,fun _=>by simp [dM]⟩
   unfold dM sU
   simp only [ne_eq,not_true_eq_false,if_false,List.append_nil]
   generalize acc.map row=L at *
   refine ay rfl rfl ?_
   simp -implicitDefEqProofs [hlt]
 | m+1,acc,a,at',hi,h,ha=>by
   obtain ⟨at2,k,e2⟩:=aiE t a (decide ((acc.length:Int)=0)) at' h ht (by omega)
   rw [H8]
   generalize hf:decide ((acc.length:Int)=0)=first at *
   by_cases h1:(aS (t.drop at') a first).2.2=0
   rotate_left
   ·rw [if_pos h1]
    refine ⟨at2, ?_,fun h=>absurd h h1⟩
    have:sU acc t at2 ([],0,(aS (t.drop at') a first).2.2)=[.i .i64 0,.i .i64 (aS (t.drop at') a first).2.2,.s t,.i .i64 at2]:=by unfold sU;rw [if_pos h1]
    rw [this]
    exact aiI _ _ _ _ _ _ _ _ _ _ (by omega) hf h1 k
   rw [if_neg (fun e=>e h1)]
   rw [h1] at k
   have e2:=e2 h1
   obtain ⟨a1,a2,a3⟩:=H9 h1
   rw [List.length_drop] at a2
   have hdd:∀j,(t.drop at').drop ((aS (t.drop at') a first).2.1+j)=t.drop (at2+j):=by intro j;rw [List.drop_drop,e2,Nat.add_assoc]
   have af4:(t.drop at').drop (aS (t.drop at') a first).2.1=t.drop at2:=by rw [List.drop_drop,e2]
   have hal:(aS (t.drop at') a first).1.length≤at2:=by split at a3<;>omega
   rw [hdd,af4]
   generalize (aS (t.drop at') a first).1=X at *
   generalize (aS (t.drop at') a first).2.1=j1 at *
   obtain ⟨at3,k2,e3⟩:=rowP X t at2 (by omega) ht (by omega)
   by_cases h2:(dN X (t.drop at2)).2.2=0
   rotate_left
   ·rw [if_pos h2]
    refine ⟨at3, ?_,fun h=>absurd h h2⟩
    have:sU acc t at3 ([],0,(dN X (t.drop at2)).2.2)=[.i .i64 0,.i .i64 (dN X (t.drop at2)).2.2,.s t,.i .i64 at3]:=by unfold sU;rw [if_pos h2]
    rw [this]
    exact aiK _ _ _ _ _ _ _ _ _ _ _ _ _ (by omega) hf h2 k k2
   rw [if_neg (fun e=>e h2)]
   rw [h2] at k2
   have e3:=e3 h2
   obtain ⟨_,q2,_,_,q5⟩:=OL h2
   obtain ⟨v1,v2,v3,_,_⟩:=ji q2
   rw [List.length_drop] at v3
   have e3':at2+(dN X (t.drop at2)).2.1=at3:=e3.symm
   rw [e3']
   have hrow:GV.g [.l ((dN X (t.drop at2)).1.1.map ent),.i .u64 (dN X (t.drop at2)).1.2]=row (dN X (t.drop at2)).1:=rfl
   obtain ⟨at4,ih,e4⟩:=aay t ht n hn m (acc++[(dN X (t.drop at2)).1]) X at3 (by rw [List.length_append,List.length_singleton];omega) (by omega) (by omega)
   have hfalse:decide (((acc++[(dN X (t.drop at2)).1]).length:Int)=0)=false:=by simp;omega
   have hl:((acc++[(dN X (t.drop at2)).1]).length:Int)=(acc.length:Int)+1:=by simp
   rw [hfalse] at ih e4
   rw [hl,List.map_append] at ih
   generalize (dN X (t.drop at2)).1=Q at *
   generalize (dN X (t.drop at2)).2.1=j2 at *
   have hout:sU acc t at4 (if (dM m X false (t.drop at3)).2.2≠0 then ([],0,(dM m X false (t.drop at3)).2.2) else (Q::(dM m X false (t.drop at3)).1,j1+j2+(dM m X false (t.drop at3)).2.1,0))=sU (acc++[Q]) t at4 (dM m X false (t.drop at3)):=by
    unfold sU
    by_cases hq:(dM m X false (t.drop at3)).2.2=0
    ·simp -implicitDefEqProofs [hq]
    ·simp -implicitDefEqProofs [hq]
   refine ⟨at4, ?_, ?_⟩
   ·rw [hout]
    exact aiJ _ _ _ _ _ _ _ _ _ _ _ _ _ (by omega) hf (wrap64 (by omega) (by omega)) (by simp;omega) k k2 (by rw [hrow];exact ih)
   ·by_cases hq:(dM m X false (t.drop at3)).2.2=0
    ·rw [if_neg (fun e=>e hq)]
     intro _
     have:=e4 hq
     simp only
     omega
    ·rw [if_pos hq]
     intro h
     exact absurd h hq
def sN (e:Int):List Row×Nat×Int:=([],0,e)
/-- A table that stands next. -/
def gB (s:List UInt8):List Row×Nat×Int:=
 if (ak s).2.2≠0 then sN (ak s).2.2 else
 if 256 < (ak s).1 then sN 13 else
 if (dM (ak s).1 [] true (s.drop (ak s).2.1)).2.2≠0 then sN (dM (ak s).1 [] true (s.drop (ak s).2.1)).2.2 else
 ((dM (ak s).1 [] true (s.drop (ak s).2.1)).1,(ak s).2.1+(dM (ak s).1 [] true (s.drop (ak s).2.1)).2.1,0)
theorem agQ (t:List UInt8) (at':Nat) (h:at'≤t.length) (ht:t.length≤100000000) :
 ∃at2:Nat,TT.lim 95 [.s t,.i .i64 at']=some [.i .i64 0,.l ((gB (t.drop at')).1.map row),.i .i64 (gB (t.drop at')).2.2,.s t,.i .i64 at2]∧((gB (t.drop at')).2.2=0→at2=at'+(gB (t.drop at')).2.1):=by
 have k1:=Cb t at' h (by omega)
 unfold gB
 by_cases he:(ak (t.drop at')).2.2=0
 rotate_left
 ·obtain ⟨e1,e2⟩:=xW he
  rw [e1,e2] at k1
  rw [if_pos he]
  generalize (ak (t.drop at')).2.2=e at *
  refine ⟨at',ay rfl rfl ?_,fun h=>absurd h he⟩
  simp -implicitDefEqProofs [k1,he,sN]
 obtain ⟨v1,v2,v3,v4,_⟩:=ji he
 rw [if_neg (fun e=>e he)]
 rw [he] at k1
 rw [List.length_drop] at v3
 rw [List.drop_drop]
 by_cases h16:256 < (ak (t.drop at')).1
 ·have lH:(256:Int) < ((ak (t.drop at')).1:Nat):=by omega
  rw [if_pos h16]
  generalize (ak (t.drop at')).1=n at *
  generalize (ak (t.drop at')).2.1=i at *
  refine ⟨at'+i,ay rfl rfl ?_,fun h=>by cases h⟩
  simp only [Int.natCast_add] at k1
  simp -implicitDefEqProofs [k1,h16,lH,sN]
 obtain ⟨at2,k2,e2⟩:=aay t ht (ak (t.drop at')).1 (by omega) (ak (t.drop at')).1 [] [] (at'+(ak (t.drop at')).2.1) (by simp) (by omega) (by simp)
 generalize (ak (t.drop at')).1=n at *
 generalize (ak (t.drop at')).2.1=i at *
 rw [if_neg h16]
 have lH:¬ (256:Int) < (n:Int):=by omega
 have w:=wrap64 (n:=(n:Int)) (by omega) (by omega)
 have hc:(0:Int)≤(n:Int)∧32 * (n:Int)≤281474976710656∧(n:Int)≤1152921504606846976:=by omega
 rw [show decide ((([]:List Row).length:Int)=0)=true from rfl] at k2 e2
 have k2':TT.lim 96 [.l [],.s [],.i .i64 n,.i .i64 0,.s t,.i .i64 ((at':Int)+(i:Int))]=_:=k2
 generalize dM n [] true (t.drop (at'+i))=r at *
 refine ⟨at2,ay rfl rfl ?_,fun h=>?_⟩
 ·simp only [Int.natCast_add] at k1
  unfold sU at k2'
  by_cases hq:r.2.2=0
  ·simp only [hq,ne_eq,not_true_eq_false,if_false,List.nil_append] at k2' ⊢
   simp -implicitDefEqProofs [k1,h16,lH,w,hc,k2',GV.fA]
  ·simp only [hq,ne_eq,not_false_eq_true,if_true] at k2' ⊢
   simp -implicitDefEqProofs [k1,h16,lH,w,hc,k2',GV.fA,sN]
 ·by_cases hq:r.2.2=0
  ·rw [if_neg (fun e=>e hq)]
   have:=e2 hq
   simp only
   omega
  ·rw [if_pos hq] at h
   exact absurd h hq
/-- A whole text, as a table. -/
def jf (s:List UInt8):List Row×Int:=
 if (gB s).2.2≠0 then ([],(gB s).2.2) else if (gB s).2.1 < s.length then ([],10) else ((gB s).1,0)
theorem OD:∀ (m:Nat) (a:List UInt8) (first:Bool) (s:List UInt8),(dM m a first s).2.2=0→(dM m a first s).2.1≤s.length∧(dM m a first s).1.length=m
 | 0,a,first,s,_=>by simp [dM]
 | m+1,a,first,s,h=>by
   rw [H8] at h ⊢
   by_cases h1:(aS s a first).2.2=0
   rotate_left
   ·rw [if_pos h1] at h;exact absurd h h1
   rw [if_neg (fun e=>e h1)] at h ⊢
   by_cases h2:(dN (aS s a first).1 (s.drop (aS s a first).2.1)).2.2=0
   rotate_left
   ·rw [if_pos h2] at h;exact absurd h h2
   rw [if_neg (fun e=>e h2)] at h ⊢
   by_cases h3:(dM m (aS s a first).1 false (s.drop ((aS s a first).2.1+(dN (aS s a first).1 (s.drop (aS s a first).2.1)).2.1))).2.2=0
   rotate_left
   ·rw [if_pos h3] at h;exact absurd h h3
   rw [if_neg (fun e=>e h3)]
   obtain ⟨a1,a2,_⟩:=H9 h1
   obtain ⟨_,q2,_,_,q5⟩:=OL h2
   obtain ⟨v1,v2,v3,_,_⟩:=ji q2
   rw [List.length_drop] at v3
   obtain ⟨b1,b2⟩:=OD m _ _ _ h3
   rw [List.length_drop] at b1
   exact ⟨by simp only;omega,by simp [b2]⟩
theorem Zq {s:List UInt8} (h:(gB s).2.2=0):(ak s).2.2=0∧(ak s).1≤256∧(dM (ak s).1 [] true (s.drop (ak s).2.1)).2.2=0∧(gB s).1=(dM (ak s).1 [] true (s.drop (ak s).2.1)).1∧
 (gB s).2.1=(ak s).2.1+(dM (ak s).1 [] true (s.drop (ak s).2.1)).2.1∧(gB s).2.1≤s.length:=by
 unfold gB at h ⊢
 by_cases h1:(ak s).2.2=0
 rotate_left
 ·rw [if_pos h1] at h;exact absurd h h1
 rw [if_neg (fun e=>e h1)] at h ⊢
 by_cases h3:256 < (ak s).1
 ·rw [if_pos h3] at h;exact absurd h (by simp [sN])
 rw [if_neg h3] at h ⊢
 by_cases h4:(dM (ak s).1 [] true (s.drop (ak s).2.1)).2.2=0
 rotate_left
 ·rw [if_pos h4] at h;exact absurd h h4
 rw [if_neg (fun e=>e h4)]
 obtain ⟨v1,v2,v3,_,_⟩:=ji h1
 obtain ⟨d1,_⟩:=OD _ _ _ _ h4
 rw [List.length_drop] at d1
 exact ⟨h1,by omega,h4,rfl,rfl,by simp only;omega⟩
theorem ame (s:List UInt8) (hs:s.length≤100000000):TT.lim 94 [.s s]=some [.l ((jf s).1.map row),.i .i64 (jf s).2]:=by
 obtain ⟨at2,k,e2⟩:=agQ s 0 (by omega) hs
 rw [List.drop_zero,show ((0:Nat):Int)=0 from rfl] at k
 rw [List.drop_zero] at e2
 unfold jf
 by_cases h1:(gB s).2.2=0
 rotate_left
 ·rw [if_pos h1]
  generalize gB s=r at *
  refine aA rfl rfl ?_ (by rfl)
  simp -implicitDefEqProofs [k,h1]
 have e2:=e2 h1
 obtain ⟨_,_,_,_,_,a7⟩:=Zq h1
 rw [if_neg (fun e=>e h1)]
 rw [h1] at k
 rw [Nat.zero_add] at e2
 have w:=wrap64 (n:=(s.length:Int) - (at2:Int)) (by omega) (by omega)
 rw [← e2] at a7 ⊢
 generalize gB s=r at *
 by_cases h2:at2 < s.length
 ·rw [if_pos h2]
  refine aA rfl rfl ?_ rfl
  simp -implicitDefEqProofs [k,w,h2]
 ·rw [if_neg h2]
  refine aA rfl rfl ?_ rfl
  simp -implicitDefEqProofs [k,w,h2]
def Eu:List UInt8→List Row→List UInt8
 | _,[]=>[]
 | a,r::t=>Hw a (qy r.1)++(gJ r.2.toNat++Eu (qy r.1) t)
/-- A table, as it is written. -/
def HY (t:List Row):List UInt8:=gJ t.length++Eu [] t
def aiN (t:List Row):List UInt8×Int:=if Dp t≠0 then ([],Dp t) else (HY t,0)
theorem rowsPut_len:∀ (t:List Row) (a:List UInt8),(∀r∈t,kE r.1=true∧0≤r.2∧r.2 < 18446744073709551616)→(Eu a t).length≤40000 * t.length
 | [],a,_=>by simp [Eu]
 | r::t,a,h=>by
   obtain ⟨h1,h2,h3⟩:=h r (by simp)
   have hk:=key_len h1
   have ho:=oneF_len a (qy r.1) (by omega)
   have hv:=EN (n:=r.2.toNat) (by omega)
   have ih:=rowsPut_len t (qy r.1) fun q hq=>h q (by simp [hq])
   simp only [Eu,List.length_append,List.length_cons]
   omega
theorem kputStep (L:List GV) (n i:Int) (D:List bV) (N:Int) (a k O V acc:List UInt8) (R:List GV) (j:Nat) (hi:i=j) (h:i < n) (hg:L[j]? = some (row (D,N))) (hw:IntKind.i64.wrap (i+1)=i+1) (k1:TT.lim 7 [.l (D.map ent)]=some [.s k]) (k2:TT.lim 32 [.s a,.s k]=some [.s O])
 (k3:TT.lim 8 [.i .u64 N]=some [.s V]) (hb1:2 * (acc.length+O.length)≤281474976710656∧acc.length+O.length≤281474976710656) (hb2:2 * (acc.length+(O.length+V.length))≤281474976710656∧acc.length+(O.length+V.length)≤281474976710656)
 (ih:TT.lim 31 [.s k,.l L,.i .i64 n,.i .i64 (i+1),.l (kS acc++(kS O++kS V))]=some R) :
 TT.lim 31 [.s a,.l L,.i .i64 n,.i .i64 i,.l (kS acc)]=some R:=by
 subst hi
 have ok1:=Rq O
 have ok2:=Rq V
 refine ay rfl rfl ?_
 simp -implicitDefEqProofs [-List.all_eq_true,h,hg,hw,k1,k2,k3,ok1,ok2,hb1,hb2,Nat.add_assoc,ih]
theorem kputLoop (l:List Row) (hl:l.length≤1000) (hf:∀r∈l,kE r.1=true∧0≤r.2∧r.2 < 18446744073709551616):∀ (m i:Nat) (a acc:List UInt8),i+m=l.length→a.length≤100000→acc.length≤10+40000 * i→
 TT.lim 31 [.s a,.l (l.map row),.i .i64 l.length,.i .i64 i,.l (kS acc)]=some [.i .i64 0,.l (kS (acc++Eu a (l.drop i)))]
 | 0,i,a,acc,hi,ha,hacc=>by
   have hd:l.drop i=[]:=List.drop_eq_nil_of_le (by omega)
   have h:¬ ((i:Int) < l.length):=by omega
   rw [hd]
   refine ay rfl rfl ?_
   simp -implicitDefEqProofs [h,Eu]
 | m+1,i,a,acc,hi,ha,hacc=>by
   have hlt:i < l.length:=by omega
   obtain ⟨h1,h2,h3⟩:=hf l[i] (List.getElem_mem hlt)
   have hk:=key_len h1
   have k1:=agP l[i].1 h1
   have k2:=oneP a (qy l[i].1) (by omega) (by omega)
   have ho:=oneF_len a (qy l[i].1) (by omega)
   have k3:=OJ l[i].2.toNat (by omega)
   rw [show ((l[i].2.toNat:Nat):Int)=l[i].2 by omega] at k3
   have hv:=EN (n:=l[i].2.toNat) (by omega)
   have ih:=kputLoop l hl hf m (i+1) (qy l[i].1) (acc++(Hw a (qy l[i].1)++gJ l[i].2.toNat)) (by omega) (by omega) (by simp only [List.length_append];omega)
   have he:acc++Eu a (l.drop i)=acc++(Hw a (qy l[i].1)++gJ l[i].2.toNat)++Eu (qy l[i].1) (l.drop (i+1)):=by
    rw [List.drop_eq_getElem_cons hlt];simp [Eu]
   rw [he]
   rw [acX acc,acX] at ih
   rw [show ((i+1:Nat):Int)=(i:Int)+1 by omega] at ih
   exact kputStep _ _ _ l[i].1 l[i].2 a _ _ _ acc _ i rfl (by omega) (by simp [hlt]) (wrap64 (by omega) (by omega)) k1 k2 k3 (by omega) (by omega) ih
theorem kputP (t:List Row) (ht:Rows t) (hf:zN t):TT.lim 21 [.l (t.map row)]=some [.s (aiN t).1,.i .i64 (aiN t).2]:=by
 have k1:=check37 t ht hf
 unfold aiN
 by_cases hc:Dp t=0
 rotate_left
 ·rw [if_pos hc]
  refine aA rfl rfl ?_ (by rfl)
  simp -implicitDefEqProofs [k1,hc]
 rw [if_neg (fun e=>e hc)]
 rw [hc] at k1
 have h256:=((adf t).1 hc).1
 have yN:∀r∈t,kE r.1=true∧0≤r.2∧r.2 < 18446744073709551616:=fun r hr=>⟨hf r hr,(ht.2 r hr).2.1,(ht.2 r hr).2.2⟩
 have k2:=OJ t.length (by omega)
 have l2:=EN (n:=t.length) (by omega)
 have k3:=kputLoop t (by omega) yN t.length 0 [] (gJ t.length) (by omega) (by simp) (by omega)
 rw [List.drop_zero,show ((0:Nat):Int)=0 from rfl] at k3
 have hlen:=rowsPut_len t [] yN
 have w:=gK (n:=(t.length:Int)) (by omega) (by omega)
 have ok:=Rq (gJ t.length)
 have hb:2 * (gJ t.length).length≤281474976710656∧(gJ t.length).length≤281474976710656:=by omega
 have hbg:=Ru (HY t)
 have hpl:(kS (HY t)).length≤281474976710656:=by
  rw [anV];unfold HY;rw [List.length_append];omega
 have hk3:TT.lim 31 [.s [],.l (t.map row),.i .i64 t.length,.i .i64 0,.l (kS (gJ t.length))]=some [.i .i64 0,.l (kS (HY t))]:=k3
 generalize kS (HY t)=PG at *
 generalize HY t=P at *
 generalize hVG:kS (gJ t.length)=VG at *
 have hvl:VG.length=(gJ t.length).length:=by rw [← hVG,anV]
 rw [← hvl] at hb
 have hlm:(t.map row).length=t.length:=by simp
 generalize t.map row=L at *
 refine aA rfl rfl ?_ rfl
 simp -implicitDefEqProofs [-List.all_eq_true,k1,hlm,w,k2,hVG,ok,hb,hk3,hbg,hpl]
theorem Yk {x:bV} (h:mD x=0):x.1.length≤64∧x.2.length≤256:=by
 have hu:∀ (s:List UInt8) (lo hi:Int),iY s lo hi=0→(s.length:Int)≤hi:=by
  intro s lo hi h
  unfold iY at h
  split at h
  ·cases h
  ·split at h
   ·cases h
   ·omega
 unfold mD at h
 by_cases h1:iY x.1 1 64=0
 ·rw [if_neg (fun e=>e h1)] at h
  have a:=hu _ _ _ h1
  have b:=hu _ _ _ h
  omega
 ·rw [if_pos h1] at h;exact absurd h h1
theorem abU {s:List UInt8} (h:(bC s).2.2=0):gJ (bC s).1.length++(bC s).1=s.take (bC s).2.1:=by
 unfold bC at h ⊢
 by_cases h1:(ak s).2.2=0
 rotate_left
 ·rw [if_pos h1] at h;exact absurd h h1
 rw [if_neg (fun e=>e h1)] at h ⊢
 obtain ⟨v1,v2,v3,v4,v5⟩:=ji h1
 by_cases h2:s.length - (ak s).2.1 < (ak s).1
 ·rw [if_pos h2] at h;cases h
 rw [if_neg h2]
 simp only [List.length_take,List.length_drop]
 rw [Nat.min_eq_left (by omega),v5,List.take_add]
theorem aeo {s:List UInt8} (h:(bn s).2.2=0):kD (bn s).1=s.take (bn s).2.1:=by
 obtain ⟨_,_,_,_,_,h1,h2,h3,h4⟩:=Dx h
 rw [h3,h4]
 unfold kD
 simp only
 have p1:=abU h1
 have p2:=abU h2
 rw [p1,List.append_assoc,p2,List.take_add]
theorem XJ:∀ (m:Nat) (p:Option bV) (s:List UInt8),(dF m p s).2.2=0→(dF m p s).1.flatMap kD=s.take (dF m p s).2.1∧Af (p.map (·.1)) (dF m p s).1=0
 | 0,p,s,_=>by simp [dF,Af]
 | m+1,p,s,h=>by
   rw [FZ] at h ⊢
   by_cases h1:(bn s).2.2=0
   rotate_left
   ·rw [if_pos h1] at h;exact absurd h h1
   rw [if_neg (fun e=>e h1)] at h ⊢
   by_cases h2:oI p (bn s).1=0
   rotate_left
   ·rw [if_pos h2] at h;exact absurd h h2
   rw [if_neg (fun e=>e h2)] at h ⊢
   by_cases h3:(dF m (some (bn s).1) (s.drop (bn s).2.1)).2.2=0
   rotate_left
   ·rw [if_pos h3] at h;exact absurd h h3
   rw [if_neg (fun e=>e h3)]
   obtain ⟨b1,b2⟩:=XJ m (some (bn s).1) _ h3
   obtain ⟨_,_,a3,_⟩:=Dx h1
   have p1:=aeo h1
   refine ⟨by simp only [List.flatMap_cons,b1,p1,List.take_add], ?_⟩
   unfold Af
   rw [if_neg (fun e=>e a3)]
   cases p with
   | none=>exact b2
   | some k=>
     have h2':oH k.1 (bn s).1.1=0:=h2
     unfold oH at h2'
     simp only [Option.map_some]
     by_cases c1:(bn s).1.1=k.1
     ·rw [if_pos c1] at h2';exact absurd h2' (by decide)
     rw [if_neg c1] at h2' ⊢
     by_cases c2:Op.bytesLess (bn s).1.1 k.1=true
     ·rw [if_pos c2] at h2';exact absurd h2' (by decide)
     rw [if_neg c2]
     exact b2
structure P7 (d:List bV) (key:List UInt8):Prop where
 chk:Aq d=0
 few:kE d=true
 ents:rM d
 put:qy d=key
theorem aej {s:List UInt8} (h:(gU s).2.2=0) (hs:s.length≤100000000):P7 (gU s).1 (s.take (gU s).2.1):=by
 obtain ⟨a1,a2,a3,a4,a5,a6,a7⟩:=XK h
 obtain ⟨b1,b2,b3⟩:=Lc _ _ _ a4
 obtain ⟨c1,c2⟩:=XJ _ _ _ a4
 obtain ⟨v1,v2,v3,v4,v5⟩:=ji a1
 rw [a5,a6]
 refine ⟨?_, ?_,⟨by omega,fun x hx=>?_⟩, ?_⟩
 ·unfold Aq
  rw [if_neg (by omega),if_neg (by omega)]
  exact c2
 ·unfold kE
  rw [Bool.and_eq_true,decide_eq_true_iff,List.all_eq_true]
  refine ⟨fun x hx=>?_,by omega⟩
  obtain ⟨e1,e2⟩:=Yk (b3 x hx).1
  unfold nG
  rw [decide_eq_true_iff];omega
 ·obtain ⟨e1,e2⟩:=Yk (b3 x hx).1
  omega
 ·unfold qy
  rw [b2,v5,c1,List.take_add]
theorem XM {s:List UInt8} (h:(gV s).2=0) (hs:s.length≤100000000):P7 (gV s).1 s:=by
 unfold gV at h ⊢
 by_cases h1:(gU s).2.2=0
 rotate_left
 ·rw [if_pos h1] at h;exact absurd h h1
 rw [if_neg (fun e=>e h1)] at h ⊢
 by_cases h2:(gU s).2.1 < s.length
 ·rw [if_pos h2] at h;exact absurd h (by simp)
 rw [if_neg h2]
 have:=aej h1 hs
 rw [List.take_of_length_le (by omega)] at this
 exact this
theorem aiF {s a:List UInt8} {first:Bool} (h:(aS s a first).2.2=0) (hf:first=true→a=[]):Hw a (aS s a first).1=s.take (aS s a first).2.1∧(first=false→a < (aS s a first).1):=by
 have ha:(if first=true then [] else a)=a:=by
  cases first with
  | true=>rw [if_pos rfl,hf rfl]
  | false=>rfl
 unfold aS at h ⊢
 simp only [ha] at h ⊢
 by_cases h1:(ak s).2.2=0
 rotate_left
 ·rw [if_pos h1] at h;exact absurd h h1
 rw [if_neg (fun e=>e h1)] at h ⊢
 by_cases h2:a.length < (ak s).1
 ·rw [if_pos h2] at h;exact absurd h (by simp [fC])
 rw [if_neg h2] at h ⊢
 by_cases h3:(ak (s.drop (ak s).2.1)).2.2=0
 rotate_left
 ·rw [if_pos h3] at h;exact absurd h h3
 rw [if_neg (fun e=>e h3)] at h ⊢
 by_cases h4:s.length - ((ak s).2.1+(ak (s.drop (ak s).2.1)).2.1) < (ak (s.drop (ak s).2.1)).1
 ·rw [if_pos h4] at h;exact absurd h (by simp [fC])
 rw [if_neg h4] at h ⊢
 obtain ⟨v1,v2,v3,v4,v5⟩:=ji h1
 obtain ⟨u1,u2,u3,u4,u5⟩:=ji h3
 have hx:((s.drop ((ak s).2.1+(ak (s.drop (ak s).2.1)).2.1)).take (ak (s.drop (ak s).2.1)).1).length=(ak (s.drop (ak s).2.1)).1:=by
  rw [List.length_take,List.length_drop];omega
 generalize hX:(s.drop ((ak s).2.1+(ak (s.drop (ak s).2.1)).2.1)).take (ak (s.drop (ak s).2.1)).1=X at *
 by_cases h5:first=false∧Op.bytesLess a (a.take (ak s).1++X)=false
 ·rw [if_pos h5] at h;exact absurd h (by simp [fC])
 rw [if_neg h5] at h ⊢
 by_cases h6:(ak s).1 < common a (a.take (ak s).1++X)
 ·rw [if_pos h6] at h;exact absurd h (by simp [fC])
 rw [if_neg h6]
 have hge:=KU (ak s).1 a X (by omega)
 have hc:common a (a.take (ak s).1++X)=(ak s).1:=by omega
 refine ⟨?_,fun hf=>?_⟩
 ·unfold Hw
  simp only [hc]
  have hl:(a.take (ak s).1++X).length - (ak s).1=(ak (s.drop (ak s).2.1)).1:=by
   rw [List.length_append,List.length_take,hx];omega
  have hd:(a.take (ak s).1++X).drop (ak s).1=X:=by
   rw [List.drop_append_of_le_length (by rw [List.length_take];omega)]
   rw [List.drop_eq_nil_of_le (by rw [List.length_take];omega)]
   rfl
  rw [hl,hd,v5,u5,← hX]
  rw [List.take_add,List.take_add,← List.drop_drop]
 ·simp only [hf,true_and] at h5
  rw [← yu]
  simpa using h5
theorem aaz:∀ (m:Nat) (a:List UInt8) (first:Bool) (s:List UInt8),(dM m a first s).2.2=0→(first=true→a=[])→a.length+s.length≤100000000→
 Eu a (dM m a first s).1=s.take (dM m a first s).2.1∧xY (dM m a first s).1∧(first=false→∀r∈(dM m a first s).1,a < K r)∧(∀r∈(dM m a first s).1,tu r=0∧kE r.1=true∧rM r.1∧0≤r.2∧r.2 < 18446744073709551616)
 | 0,a,first,s,_,_,_=>by simp [dM,Eu,xY]
 | m+1,a,first,s,h,hf,hl=>by
   rw [H8] at h ⊢
   by_cases h1:(aS s a first).2.2=0
   rotate_left
   ·rw [if_pos h1] at h;exact absurd h h1
   rw [if_neg (fun e=>e h1)] at h ⊢
   by_cases h2:(dN (aS s a first).1 (s.drop (aS s a first).2.1)).2.2=0
   rotate_left
   ·rw [if_pos h2] at h;exact absurd h h2
   rw [if_neg (fun e=>e h2)] at h ⊢
   by_cases h3:(dM m (aS s a first).1 false (s.drop ((aS s a first).2.1+(dN (aS s a first).1 (s.drop (aS s a first).2.1)).2.1))).2.2=0
   rotate_left
   ·rw [if_pos h3] at h;exact absurd h h3
   rw [if_neg (fun e=>e h3)]
   obtain ⟨a1,a2,a3⟩:=H9 h1
   obtain ⟨p1,p2⟩:=aiF h1 hf
   obtain ⟨q1,q2,q3,q4,q5⟩:=OL h2
   have hxl:(aS s a first).1.length≤a.length+(aS s a first).2.1:=by
    cases first<;>simp at a3<;>omega
   obtain ⟨v1,v2,v3,v4,v5⟩:=ji q2
   have dk:=XM q1 (by omega)
   obtain ⟨b1,b2,b3,b4⟩:=aaz m _ false _ h3 (fun e=>by cases e) (by rw [List.length_drop];omega)
   have hK:K (dN (aS s a first).1 (s.drop (aS s a first).2.1)).1=(aS s a first).1:=by rw [q4];exact dk.put
   have hN:(dN (aS s a first).1 (s.drop (aS s a first).2.1)).1.2.toNat=(ak (s.drop (aS s a first).2.1)).1:=by rw [q4];simp
   simp only
   refine ⟨?_, ?_,fun yN r hr=>?_,fun r hr=>?_⟩
   ·show Hw a (K _)++(gJ _++Eu (K _) _)=_
    rw [hK,hN,b1,p1,v5,← q5]
    rw [List.take_add,List.take_add,List.append_assoc]
   ·refine List.pairwise_cons.2 ⟨fun r hr=>?_,b2⟩
    rw [hK]
    exact b3 rfl r hr
   ·rcases List.mem_cons.1 hr with rfl | hr
    ·rw [hK];exact p2 yN
    ·exact List.lt_trans (p2 yN) (b3 rfl r hr)
   ·rcases List.mem_cons.1 hr with rfl | hr
    ·rw [q4]
     refine ⟨?_,dk.few,dk.ents,by simp only;omega,by simp only;omega⟩
     rw [aaT]
     exact ⟨dk.chk,by simp only;omega⟩
    ·exact b4 r hr
structure uh (t:List Row):Prop where
 ok:Ok t
 few:zN t
 rows:Rows t
theorem uh.tb {t:List Row} (h:uh t):Dp t=0:=(adf t).2 h.ok
theorem agR {s:List UInt8} (h:(gB s).2.2=0) (hs:s.length≤100000000):HY (gB s).1=s.take (gB s).2.1∧uh (gB s).1:=by
 obtain ⟨a1,a2,a3,a4,a5,a6⟩:=Zq h
 obtain ⟨v1,v2,v3,v4,v5⟩:=ji a1
 obtain ⟨l1,l2⟩:=OD _ _ _ _ a3
 obtain ⟨b1,b2,_,b4⟩:=aaz _ _ _ _ a3 (fun _=>rfl) (by rw [List.length_drop];simp;omega)
 rw [a4,a5]
 refine ⟨?_,⟨by omega,b2,fun r hr=>(b4 r hr).1⟩,fun r hr=>(b4 r hr).2.1,by omega,fun r hr=>(b4 r hr).2.2⟩
 unfold HY
 rw [l2,v5,b1,List.take_add]
theorem abZ:uh []:=⟨⟨by simp,List.Pairwise.nil,by simp⟩,fun r hr=>by simp at hr,by simp,by simp⟩
theorem amf {s:List UInt8} (hs:s.length≤100000000):uh (jf s).1∧((jf s).2=0→HY (jf s).1=s)∧((jf s).2≠0→(jf s).1=[]):=by
 unfold jf
 by_cases h1:(gB s).2.2=0
 rotate_left
 ·rw [if_pos h1]
  exact ⟨abZ,fun h=>absurd h h1,fun _=>rfl⟩
 rw [if_neg (fun e=>e h1)]
 by_cases h2:(gB s).2.1 < s.length
 ·rw [if_pos h2]
  exact ⟨abZ,fun h=>absurd h (by decide),fun _=>rfl⟩
 rw [if_neg h2]
 obtain ⟨b1,b2⟩:=agR h1 hs
 rw [List.take_of_length_le (by omega)] at b1
 exact ⟨b2,fun _=>b1,fun h=>absurd rfl h⟩
theorem uh.len {t:List Row} (h:uh t):t.length≤256:=h.ok.1
theorem uh.good {t:List Row} (h:uh t):ku t:=⟨Nat.le_trans h.len (by decide),h.few,h.rows⟩
theorem tnext_of (a x:List UInt8) (ha:a.length≤100000000):bC (gJ a.length++(a++x))=(a,(gJ a.length).length+a.length,0):=by
 have h:=vget_put a.length (a++x) (by omega)
 unfold bC
 rw [h]
 simp only [ne_eq,not_true_eq_false,if_false]
 have hl:(gJ a.length++(a++x)).length=(gJ a.length).length+(a.length+x.length):=by simp
 rw [hl,if_neg (by omega),List.drop_left,List.take_left]
theorem enext_of (e:bV) (y:List UInt8) (h:mD e=0):bn (kD e++y)=(e,(kD e).length,0):=by
 obtain ⟨l1,l2⟩:=Yk h
 have e1:kD e++y=gJ e.1.length++(e.1++(gJ e.2.length++(e.2++y))):=by unfold kD;simp
 have h1:=tnext_of e.1 (gJ e.2.length++(e.2++y)) (by omega)
 have h2:=tnext_of e.2 y (by omega)
 have hd:(gJ e.1.length++(e.1++(gJ e.2.length++(e.2++y)))).drop ((gJ e.1.length).length+e.1.length)=gJ e.2.length++(e.2++y):=by
  rw [← List.append_assoc,← List.length_append,List.drop_left]
 have hl:(kD e).length=(gJ e.1.length).length+e.1.length+((gJ e.2.length).length+e.2.length):=by unfold kD;simp;omega
 unfold bn
 rw [e1,h1]
 simp only [ne_eq,not_true_eq_false,if_false,hd,h2]
 have he:mD (e.1,e.2)=0:=h
 rw [he,hl]
 simp
theorem chkL_cons {p:Option (List UInt8)} {x:bV} {xs:List bV} (h:Af p (x::xs)=0):mD x=0∧(∀k,p=some k→oH k x.1=0)∧Af (some x.1) xs=0:=by
 unfold Af at h
 by_cases h1:mD x=0
 rotate_left
 ·rw [if_pos h1] at h;exact absurd h h1
 rw [if_neg (fun e=>e h1)] at h
 cases p with
 | none=>exact ⟨h1,(fun k hk=>by cases hk),h⟩
 | some k=>
   simp only at h
   by_cases c1:x.1=k
   ·rw [if_pos c1] at h;exact absurd h (by decide)
   rw [if_neg c1] at h
   by_cases c2:Op.bytesLess x.1 k=true
   ·rw [if_pos c2] at h;exact absurd h (by decide)
   rw [if_neg c2] at h
   refine ⟨h1,fun k' hk=>?_,h⟩
   cases hk
   unfold oH
   rw [if_neg c1,if_neg c2]
theorem dloop_of:∀ (d:List bV) (p:Option bV) (y:List UInt8),Af (p.map (·.1)) d=0→dF d.length p (d.flatMap kD++y)=(d,(d.flatMap kD).length,0)
 | [],p,y,_=>by simp [dF]
 | x::d,p,y,h=>by
   obtain ⟨h1,h2,h3⟩:=chkL_cons h
   have he:=enext_of x (d.flatMap kD++y) h1
   have hs:(x::d).flatMap kD++y=kD x++(d.flatMap kD++y):=by simp
   have ih:=dloop_of d (some x) y h3
   have hb:oI p x=0:=by
    cases p with
    | none=>rfl
    | some k=>exact h2 k.1 rfl
   rw [List.length_cons,FZ,hs,he]
   simp only [ne_eq,not_true_eq_false,if_false,List.drop_left,hb,ih]
   simp
theorem dnext_of (d:List bV) (y:List UInt8) (h:Aq d=0):gU (qy d++y)=(d,(qy d).length,0):=by
 unfold Aq at h
 by_cases h1:d.length=0
 ·rw [if_pos h1] at h;exact absurd h (by decide)
 rw [if_neg h1] at h
 by_cases h2:16 < d.length
 ·rw [if_pos h2] at h;exact absurd h (by decide)
 rw [if_neg h2] at h
 have hv:=vget_put d.length (d.flatMap kD++y) (by omega)
 have hk:qy d++y=gJ d.length++(d.flatMap kD++y):=by unfold qy;simp
 have hl:=dloop_of d none y h
 unfold gU
 rw [hk,hv]
 simp only [ne_eq,not_true_eq_false,if_false,h1,h2,List.drop_left,hl]
 unfold qy
 simp
theorem dparse_of (d:List bV) (h:Aq d=0):gV (qy d)=(d,0):=by
 have:=dnext_of d [] h
 rw [List.append_nil] at this
 unfold gV
 rw [this]
 simp
theorem common_drop (a s:List UInt8):a.take (common a s)++s.drop (common a s)=s:=by
 rw [common_take,List.take_append_drop]
theorem pnext_of (a t y:List UInt8) (first:Bool) (hf:first=true→a=[]) (hn:first=false→a < t) (ht:t.length≤100000000):aS (Hw a t++y) a first=(t,(Hw a t).length,0):=by
 have ha:(if first=true then [] else a)=a:=by
  cases first with
  | true=>rw [if_pos rfl,hf rfl]
  | false=>rfl
 obtain ⟨c1,c2⟩:=Vb a t
 have e1:Hw a t++y=gJ (common a t)++(gJ (t.length - common a t)++(t.drop (common a t)++y)):=by unfold Hw;simp
 have v1:=vget_put (common a t) (gJ (t.length - common a t)++(t.drop (common a t)++y)) (by omega)
 have v2:=vget_put (t.length - common a t) (t.drop (common a t)++y) (by omega)
 have hl:(Hw a t).length=(gJ (common a t)).length+(gJ (t.length - common a t)).length+(t.length - common a t):=by unfold Hw;simp;omega
 have hd:(gJ (common a t)++(gJ (t.length - common a t)++(t.drop (common a t)++y))).drop ((gJ (common a t)).length+(gJ (t.length - common a t)).length)=t.drop (common a t)++y:=by
  rw [← List.append_assoc,← List.length_append,List.drop_left]
 have hx:(t.drop (common a t)++y).take (t.length - common a t)=t.drop (common a t):=by
  rw [← List.length_drop,List.take_left]
 have hb:¬ (first=false∧Op.bytesLess a t=false):=by
  rintro ⟨h1,h2⟩
  have:=(yu a t).2 (hn h1)
  rw [h2] at this;cases this
 unfold aS
 simp only [ha]
 rw [e1,v1]
 simp only [ne_eq,not_true_eq_false,if_false,List.drop_left,v2,hd,hx,common_drop]
 rw [if_neg (by omega),if_neg (by simp;omega),if_neg hb,if_neg (by omega),hl]
theorem ploop_of:∀ (l:List Row) (a:List UInt8) (first:Bool) (y:List UInt8),(first=true→a=[])→(first=false→∀r∈l,a < K r)→xY l→(∀r∈l,tu r=0∧kE r.1=true∧0≤r.2∧r.2 < 18446744073709551616)→
 dM l.length a first (Eu a l++y)=(l,(Eu a l).length,0)
 | [],a,first,y,_,_,_,_=>by simp [dM,Eu]
 | r::l,a,first,y,hf,hn,hr,hc=>by
   obtain ⟨h1,h2⟩:=List.pairwise_cons.1 hr
   obtain ⟨q1,q2,q3,q4⟩:=hc r (by simp)
   have hk:(K r).length≤30000:=key_len q2
   rw [aaT] at q1
   have hs:Eu a (r::l)++y=Hw a (K r)++(gJ r.2.toNat++(Eu (K r) l++y)):=by simp [Eu]
   have hp:=pnext_of a (K r) (gJ r.2.toNat++(Eu (K r) l++y)) first hf (fun e=>hn e r (by simp)) (by omega)
   have hv:=vget_put r.2.toNat (Eu (K r) l++y) (by omega)
   have hd:=dparse_of r.1 q1.1
   have ih:=ploop_of l (K r) false y (fun e=>by cases e) (fun _=>h1) h2 fun q hq=>hc q (by simp [hq])
   have hdd:(Hw a (K r)++(gJ r.2.toNat++(Eu (K r) l++y))).drop ((Hw a (K r)).length+(gJ r.2.toNat).length)=Eu (K r) l++y:=by
    rw [← List.append_assoc,← List.length_append,List.drop_left]
   have hq:dN (K r) (gJ r.2.toNat++(Eu (K r) l++y))=(r,(gJ r.2.toNat).length,0):=by
    unfold dN
    rw [hv,hd]
    simp only [ne_eq,not_true_eq_false,if_false]
    rw [if_neg (by omega)]
    have:((r.2.toNat:Nat):Int)=r.2:=by omega
    rw [this]
   rw [List.length_cons,H8,hs,hp]
   simp only [ne_eq,not_true_eq_false,if_false,List.drop_left,hq,hdd,ih]
   simp -implicitDefEqProofs [Eu,Nat.add_assoc]
theorem knext_of (t:List Row) (y:List UInt8) (h:uh t):gB (HY t++y)=(t,(HY t).length,0):=by
 have hl:=h.len
 have hv:=vget_put t.length (Eu [] t++y) (by omega)
 have hk:HY t++y=gJ t.length++(Eu [] t++y):=by unfold HY;simp
 have hp:=ploop_of t [] true y (fun _=>rfl) (fun e=>by cases e) h.ok.2.1 fun r hr=>⟨h.ok.2.2 r hr,h.few r hr,(h.rows.2 r hr).2.1,(h.rows.2 r hr).2.2⟩
 unfold gB
 rw [hk,hv]
 simp only [ne_eq,not_true_eq_false,if_false,List.drop_left,hp]
 rw [if_neg (by omega)]
 unfold HY
 simp
theorem tparse_of (t:List Row) (h:uh t):jf (HY t)=(t,0):=by
 have:=knext_of t [] h
 rw [List.append_nil] at this
 unfold jf
 rw [this]
 simp
structure One where
 deep:Int
 tag:Int
 typ:Int
 num:Int
 text:List UInt8
inductive bH where
 | mk (tag typ num:Int) (text:List UInt8) (l:List bH)
def one (x:One):GV:=.g [.i .u8 x.deep,.i .u64 x.tag,.i .i8 x.typ,.i .u64 x.num,.s x.text]
@[simp] theorem apm (x:One):(one x).cells=[.i .u8 x.deep,.i .u64 x.tag,.i .i8 x.typ,.i .u64 x.num,.s x.text]:=rfl
mutual
def oM:bH→GV
 | .mk t y n s l=>.g [.i .u64 t,.i .i64 y,.i .u64 n,.s s,.l (aV l)]
def aV:List bH→List GV
 | []=>[]
 | f::l=>oM f::aV l
end
theorem LH:∀ (a b:List bH),aV (a++b)=aV a++aV b
 | [],b=>rfl
 | f::a,b=>by simp only [List.cons_append,aV,LH a b]
theorem qp:∀ (a:List bH),(aV a).length=a.length
 | []=>rfl
 | f::a=>by simp only [aV,List.length_cons,qp a]
def vN (x:One):Prop:=0≤x.deep∧x.deep≤255∧-128≤x.typ∧x.typ≤127∧0≤x.tag∧x.tag < 18446744073709551616∧0≤x.num∧x.num < 18446744073709551616∧x.text.length≤140737488351232
def Ones (l:List One):Prop:=l.length≤140737488351232∧∀x∈l,vN x
def qQ (l:List One):Bool:=l.all (fun x=>decide (x.text.length≤300))&&decide (l.length≤60)
theorem YB (l:List One) (hl:l.length≤140737488351232):∀m i:Nat,i+m=l.length→TT.lim 15 [.l (l.map one),.i .i64 l.length,.i .i64 i]=some (if (l.drop i).all (fun x=>decide (x.text.length≤300))=true then [.i .i64 1] else [.i .i64 0])
 | 0,i,hi=>by
   have h0:l.drop i=[]:=List.drop_eq_nil_of_le (by omega)
   refine ay rfl rfl ?_
   have h:¬ ((i:Int) < l.length):=by omega
   simp -implicitDefEqProofs [h,h0]
 | m+1,i,hi=>by
   have hlt:i < l.length:=by omega
   have ih:TT.lim 15 [.l (l.map one),.i .i64 l.length,.i .i64 ((i:Int)+1)]=_:=YB l hl m (i+1) (by omega)
   refine ay rfl rfl ?_
   have h:((i:Int) < l.length):=by omega
   have hw:=wrap64 (n:=(i:Int)+1) (by omega) (by omega)
   have hda:(l.drop i).all (fun x=>decide (x.text.length≤300))=(decide (l[i].text.length≤300)&&(l.drop (i+1)).all (fun x=>decide (x.text.length≤300))):=by rw [List.drop_eq_getElem_cons hlt,List.all_cons]
   by_cases hf:(300:Int) < (l[i].text.length:Int)
   ·have:decide (l[i].text.length≤300)=false:=by simp;omega
    simp -implicitDefEqProofs [-List.all_eq_true,h,hlt,hf,hda,this]
   ·have:decide (l[i].text.length≤300)=true:=by simp;omega
    rw [hda,this,Bool.true_and]
    simp -implicitDefEqProofs [-List.all_eq_true,h,hlt,hw,hf,ih]
theorem ae8 (l:List One) (hl:l.length≤140737488351232):TT.lim 14 [.l (l.map one)]=some [.b (qQ l)]:=by
 refine aA rfl rfl ?_ rfl
 have h5:TT.lim 15 [.l (l.map one),.i .i64 l.length,.i .i64 0]=_:=YB l hl l.length 0 (by omega)
 rw [List.drop_zero] at h5
 cases hc:l.all (fun x=>decide (x.text.length≤300)) with
 | false=>rw [hc] at h5;simp [-List.all_eq_true,h5,qQ,hc]
 | true=>
   rw [hc] at h5;simp only [if_true] at h5
   have:(decide ((l.length:Int)≤60))=decide (l.length≤60):=by rw [Bool.eq_iff_iff];simp;omega
   simp -implicitDefEqProofs [-List.all_eq_true,h5,qQ,hc,this]
/-- What Make makes: of the first ones that are at least so deep; and the others. -/
def dS:Nat→List One→Int→List bH×List One
 | 0,l,_=>([],l)
 | _+1,[],_=>([],[])
 | n+1,x::l,deep=>
   if deep≤x.deep then
    let p:=if x.deep=255 then ([],l) else dS n l (x.deep+1)
    let q:=dS n p.2 deep
    (.mk x.tag x.typ x.num x.text p.1::q.1,q.2)
   else ([],x::l)
theorem AO:∀ (n:Nat) (l:List One) (deep:Int),(dS n l deep).1.length+(dS n l deep).2.length≤l.length∧∃k,(dS n l deep).2=l.drop k
 | 0,l,deep=>by simp only [dS];exact ⟨by simp,0,rfl⟩
 | n+1,[],deep=>by simp only [dS];exact ⟨by simp,0,rfl⟩
 | n+1,x::l,deep=>by
   simp only [dS]
   split
   ·by_cases hx:x.deep=255
    ·rw [if_pos hx]
     obtain ⟨h1,k,h2⟩:=AO n l deep
     refine ⟨by simp only [List.length_cons];omega,k+1,by simp only [h2,List.drop_succ_cons]⟩
    ·rw [if_neg hx]
     obtain ⟨h1,k,h2⟩:=AO n l (x.deep+1)
     obtain ⟨h3,k',h4⟩:=AO n (dS n l (x.deep+1)).2 deep
     refine ⟨by simp only [List.length_cons];omega,k+k'+1, ?_⟩
     simp only [h4,List.drop_succ_cons]
     rw [h2,List.drop_drop]
   ·exact ⟨by simp,0,rfl⟩
def AB (x:One) (l:List bH):GV:=.g [.i .u64 x.tag,.i .i64 x.typ,.i .u64 x.num,.s x.text,.l (aV l)]
theorem Gp:∀ (n:Nat) (l:List One) (deep:Int) (acc:List bH),l.length < n→acc.length+l.length≤1000000→(∀x∈l,vN x)→
 TT.lim 19 [.l (l.map one),.i .u8 deep,.l (aV acc)]=some [.i .i64 0,.l ((dS n l deep).2.map one),.l (aV (acc++(dS n l deep).1))]
 | 0,l,deep,acc,hn,_,_=>by omega
 | n+1,[],deep,acc,hn,hb,hl=>by
   refine ay rfl rfl ?_
   simp -implicitDefEqProofs [dS]
 | n+1,x::l,deep,acc,hn,hb,hl=>by
   have hx:=hl x (by simp)
   have hl':∀y∈l,vN y:=fun y hy=>hl y (by simp [hy])
   simp only [List.length_cons] at hn hb
   have hw:=wrap64 (n:=x.typ) (by have:=hx.2.2.1;omega) (by have:=hx.2.2.2.1;omega)
   have hb2:2 * ((aV acc).length+1) * 64≤281474976710656:=by rw [qp];omega
   have hb3:(aV acc).length≤281474976710655:=by rw [qp];omega
   have hcast:((l.length:Int)+1).toNat=l.length+1:=by omega
   have h1:(1:Int)≤(l.length:Int)+1:=by omega
   have htake:List.take l.length (l.map one)=l.map one:=List.take_of_length_le (by simp)
   have hall:∀y∈l.map one,y.cells.length=5:=by
    intro y hy;obtain ⟨z,_,rfl⟩:=List.mem_map.1 hy;rfl
   refine ay rfl rfl ?_
   by_cases hd:deep≤x.deep
   ·by_cases Gx:x.deep=255
    ·have ih:=Gp n l deep (acc++[.mk x.tag x.typ x.num x.text []]) (by omega) (by simp;omega) hl'
     have e:dS (n+1) (x::l) deep=(.mk x.tag x.typ x.num x.text []::(dS n l deep).1,(dS n l deep).2):=by
      simp only [dS,if_pos hd,if_pos Gx]
     rw [e]
     rw [List.append_assoc,LH] at ih
     have e2:aV [bH.mk x.tag x.typ x.num x.text []]=[AB x []]:=rfl
     rw [e2] at ih
     have hel:(AB x []).fA 5=true:=rfl
     have hfold:GV.g [.i .u64 x.tag,.i .i64 x.typ,.i .u64 x.num,.s x.text,.l []]=AB x []:=rfl
     have h0:(0:Int) < (l.length:Int)+1:=by omega
     have hd2:deep≤255:=by omega
     simp -implicitDefEqProofs [hd2,Gx,hw,hfold,hel,hb2,hb3,hall,h0,h1,htake,hcast,ih]
    ·have hf:=AO n l (x.deep+1)
     have ih1:=Gp n l (x.deep+1) [] (by omega) (by simp;omega) hl'
     have hk:TT.lim 18 [.l (l.map one),.i .u8 (x.deep+1)]=some [.l (aV (dS n l (x.deep+1)).1),.l ((dS n l (x.deep+1)).2.map one)]:=by
      refine aA rfl rfl ?_ rfl
      have ih1':TT.lim 19 [.l (l.map one),.i .u8 (x.deep+1),.l []]=_:=ih1
      simp -implicitDefEqProofs [ih1']
     have ih2:=Gp n (dS n l (x.deep+1)).2 deep (acc++[.mk x.tag x.typ x.num x.text (dS n l (x.deep+1)).1]) (by omega) (by simp;omega) (fun y hy=>by
      obtain ⟨_,k,e⟩:=hf
      rw [e] at hy
      exact hl' y (List.mem_of_mem_drop hy))
     have e:dS (n+1) (x::l) deep=(.mk x.tag x.typ x.num x.text (dS n l (x.deep+1)).1::(dS n (dS n l (x.deep+1)).2 deep).1,(dS n (dS n l (x.deep+1)).2 deep).2):=by
      simp only [dS,if_pos hd,if_neg Gx]
     rw [e]
     rw [List.append_assoc,LH] at ih2
     generalize dS n l (x.deep+1)=p at *
     obtain ⟨p1,p2⟩:=p
     simp only at *
     have e2:aV [bH.mk x.tag x.typ x.num x.text p1]=[AB x p1]:=rfl
     rw [e2] at ih2
     have hel:(AB x p1).fA 5=true:=rfl
     have hfold:GV.g [.i .u64 x.tag,.i .i64 x.typ,.i .u64 x.num,.s x.text,.l (aV p1)]=AB x p1:=rfl
     have h0:(0:Int) < (l.length:Int)+1:=by omega
     have hw8:=acs (n:=x.deep+1) (by have:=hx.1;omega) (by have:=hx.2.1;omega)
     simp -implicitDefEqProofs [hd,Gx,hw,hw8,hk,hfold,hel,hb2,hb3,hall,h0,h1,htake,hcast,ih2]
   ·have e:dS (n+1) (x::l) deep=([],x::l):=by simp only [dS,if_neg hd]
    rw [e]
    have h0:(0:Int) < (l.length:Int)+1:=by omega
    simp -implicitDefEqProofs [hd,h0]
def lX (l:List One):List bH:=(dS (l.length+1) l 0).1
theorem ahc (l:List One) (hl:∀x∈l,vN x) (h60:l.length≤1000000):TT.lim 17 [.l (l.map one)]=some [.l (aV (lX l))]:=by
 have hk:TT.lim 18 [.l (l.map one),.i .u8 0]=some [.l (aV (lX l)),.l ((dS (l.length+1) l 0).2.map one)]:=by
  refine aA rfl rfl ?_ rfl
  have ih1:TT.lim 19 [.l (l.map one),.i .u8 0,.l []]=_:=Gp (l.length+1) l 0 [] (by omega) (by simp;omega) hl
  simp -implicitDefEqProofs [ih1,lX]
 refine aA rfl rfl ?_ rfl
 simp -implicitDefEqProofs [hk]
structure aF where
 kind:Int
 id:Int
 min:Int
 max:Int
 chosen:Int
 flags:Int
 cost:Int
 priority:Int
 deadline:Int
 retry:Int
 epoch:Int
 base:Int
 digest:Int
 lag:Int
 code:Int
 want:Int
 remaining:Int
 allowed:Bool
 name:List UInt8
 region:List UInt8
 note:List UInt8
 d:List bV
 t:List Row
/-- A message: what it has, and its rest. -/
def aK (b:aF) (r:List GV):GV:=.g [.i .i64 b.kind,.i .u64 b.id,.i .u64 b.min,.i .u64 b.max,.i .u64 b.chosen,.i .u64 b.flags,.i .u64 b.cost,.i .u64 b.priority,.i .u64 b.deadline,.i .u64 b.retry,.i .u64 b.epoch,.i .u64 b.base,.i .u64 b.digest,.i .u64 b.lag,.i .u64 b.code,.i .u64 b.want,.i .i64 b.remaining,.b b.allowed,.s b.name,.s b.region,.s b.note,.l (b.d.map ent),.l (b.t.map row),.l r]
theorem iG (b:aF) (r:List GV):GV.g [.i .i64 b.kind,.i .u64 b.id,.i .u64 b.min,.i .u64 b.max,.i .u64 b.chosen,.i .u64 b.flags,.i .u64 b.cost,.i .u64 b.priority,.i .u64 b.deadline,.i .u64 b.retry,.i .u64 b.epoch,.i .u64 b.base,.i .u64 b.digest,.i .u64 b.lag,.i .u64 b.code,.i .u64 b.want,.i .i64 b.remaining,.b b.allowed,.s b.name,.s b.region,.s b.note,.l (b.d.map ent),.l (b.t.map row),.l r]=aK b r:=rfl
@[simp] theorem dw (b:aF) (r:List GV):(aK b r).cells=[.i .i64 b.kind,.i .u64 b.id,.i .u64 b.min,.i .u64 b.max,.i .u64 b.chosen,.i .u64 b.flags,.i .u64 b.cost,.i .u64 b.priority,.i .u64 b.deadline,.i .u64 b.retry,.i .u64 b.epoch,.i .u64 b.base,.i .u64 b.digest,.i .u64 b.lag,.i .u64 b.code,.i .u64 b.want,.i .i64 b.remaining,.b b.allowed,.s b.name,.s b.region,.s b.note,.l (b.d.map ent),.l (b.t.map row),.l r]:=rfl
structure qH (b:aF):Prop where
 kind : -9223372036854775808≤b.kind∧b.kind≤9223372036854775807
 id:0≤b.id∧b.id < 18446744073709551616
 min:0≤b.min∧b.min < 18446744073709551616
 max:0≤b.max∧b.max < 18446744073709551616
 chosen:0≤b.chosen∧b.chosen < 18446744073709551616
 flags:0≤b.flags∧b.flags < 18446744073709551616
 cost:0≤b.cost∧b.cost < 18446744073709551616
 priority:0≤b.priority∧b.priority < 18446744073709551616
 deadline:0≤b.deadline∧b.deadline < 18446744073709551616
 retry:0≤b.retry∧b.retry < 18446744073709551616
 epoch:0≤b.epoch∧b.epoch < 18446744073709551616
 base:0≤b.base∧b.base < 18446744073709551616
 digest:0≤b.digest∧b.digest < 18446744073709551616
 lag:0≤b.lag∧b.lag < 18446744073709551616
 code:0≤b.code∧b.code < 18446744073709551616
 want:0≤b.want∧b.want < 18446744073709551616
 remaining : -9223372036854775808≤b.remaining∧b.remaining≤9223372036854775807
 name:b.name.length≤140737488351232
 region:b.region.length≤140737488351232
 note:b.note.length≤140737488351232
 d:rM b.d
 t:Rows b.t
def Aw (b:aF) (l:List One):Bool:=decide (b.name.length≤600)&&(decide (b.region.length≤600)&&(decide (b.note.length≤600)&&(kE b.d&&(wH b.t&&qQ l))))
theorem Yz (b:aF) (l:List One) (hb:qH b) (hl:Ones l):TT.lim 2 [aK b (l.map one)]=some [.b (Aw b l)]:=by
 have h12:=YA b.d hb.d
 have h13:=ae7 b.t hb.t
 have h8:=ae8 l hl.1
 have e1:(decide ((b.name.length:Int)≤600))=decide (b.name.length≤600):=by rw [Bool.eq_iff_iff];simp;omega
 have e2:(decide ((b.region.length:Int)≤600))=decide (b.region.length≤600):=by rw [Bool.eq_iff_iff];simp;omega
 have e3:(decide ((b.note.length:Int)≤600))=decide (b.note.length≤600):=by rw [Bool.eq_iff_iff];simp;omega
 refine aA rfl rfl ?_ rfl
 unfold Aw
 generalize kE b.d=c1 at *
 generalize wH b.t=c2 at *
 generalize qQ l=c3 at *
 cases f1:decide (b.name.length≤600) with
 | false=>rw [f1] at e1;simp at e1;have e1':¬ ((b.name.length:Int)≤600):=by omega
          simp -implicitDefEqProofs [e1']
 | true=>
 rw [f1] at e1;have e1':((b.name.length:Int)≤600):=by simpa using e1
 cases f2:decide (b.region.length≤600) with
 | false=>rw [f2] at e2;simp at e2;have e2':¬ ((b.region.length:Int)≤600):=by omega
          simp -implicitDefEqProofs [e1',e2']
 | true=>
 rw [f2] at e2;have e2':((b.region.length:Int)≤600):=by simpa using e2
 cases f3:decide (b.note.length≤600) with
 | false=>rw [f3] at e3;simp at e3;have e3':¬ ((b.note.length:Int)≤600):=by omega
          simp -implicitDefEqProofs [e1',e2',e3']
 | true=>
 rw [f3] at e3;have e3':((b.note.length:Int)≤600):=by simpa using e3
 cases c1<;>cases c2<;>simp [e1',e2',e3',h12,h13,h8]
theorem ZX (b:aF) (l:List One) (hl:Ones l) (hf:qQ l=true):TT.lim 16 [aK b (l.map one)]=some [aK b (aV (lX l))]:=by
 have h8:l.length≤60:=by unfold qQ at hf;rw [Bool.and_eq_true,decide_eq_true_iff] at hf;exact hf.2
 have hm:=ahc l hl.2 (by omega)
 refine aA rfl rfl ?_ rfl
 simp -implicitDefEqProofs [hm,iG]
theorem GK {k:IntKind} {g:GV} (h:(bg.int k).has g):∃n,g=.i k n∧k.min≤n∧n≤k.max:=by
 simp only [bg.has] at h
 exact h
theorem Y3 {g:GV} (h:(bg.int .i64).has g):∃n,g=.i .i64 n∧-9223372036854775808≤n∧n≤9223372036854775807:=by
 obtain ⟨n,rfl,h1,h2⟩:=GK h
 exact ⟨n,rfl,by simpa [IntKind.min,IntKind.signed,IntKind.bits] using h1,by simpa [IntKind.max,IntKind.signed,IntKind.bits] using h2⟩
theorem afW {g:GV} (h:bg.bool.has g):∃b,g=.b b:=by simpa only [bg.has] using h
theorem aeu {g:GV} (h:(bg.list true [.str,.str]).has g):∃l:List bV,rM l∧g=.l (l.map ent):=by
 obtain ⟨xs,rfl,h1,h2⟩:=GL h
 obtain ⟨rs,h3,rfl⟩:=D6 (f:=ent) (p:=fun r:bV=>r.1.length≤140737488351232∧r.2.length≤140737488351232) fun x hx=>by
  obtain ⟨h4,h5⟩:=h2 x hx
  cases x<;>simp [GV.scalar] at h5
  next cs=>
  simp only [KN] at h4
  obtain ⟨a,r,rfl,ha,h4⟩:=fM h4
  obtain ⟨c,r,rfl,hc,h4⟩:=fM h4
  obtain rfl:=DR h4
  obtain ⟨u,rfl,hu⟩:=sK ha
  obtain ⟨v,rfl,hv⟩:=sK hc
  exact ⟨(u,v),⟨hu,hv⟩,rfl⟩
 exact ⟨rs,⟨by rw [List.length_map] at h1;exact h1,h3⟩,rfl⟩
theorem ah3 {g:GV} (h:(bg.list true [.int .u8,.int .u64,.int .i8,.int .u64,.str]).has g):∃l:List One,Ones l∧g=.l (l.map one):=by
 obtain ⟨xs,rfl,h1,h2⟩:=GL h
 obtain ⟨rs,h3,rfl⟩:=D6 (f:=one) (p:=vN) fun x hx=>by
  obtain ⟨h4,h5⟩:=h2 x hx
  cases x<;>simp [GV.scalar] at h5
  next cs=>
  simp only [KN] at h4
  obtain ⟨a,r,rfl,ha,h4⟩:=fM h4
  obtain ⟨c,r,rfl,hc,h4⟩:=fM h4
  obtain ⟨e,r,rfl,he,h4⟩:=fM h4
  obtain ⟨f,r,rfl,hf,h4⟩:=fM h4
  obtain ⟨s,r,rfl,hs,h4⟩:=fM h4
  obtain rfl:=DR h4
  obtain ⟨a,rfl,a1,a2⟩:=GK ha
  obtain ⟨c,rfl,c1,c2⟩:=lI hc
  obtain ⟨e,rfl,e1,e2⟩:=GK he
  obtain ⟨f,rfl,f1,f2⟩:=lI hf
  obtain ⟨s,rfl,hs0⟩:=sK hs
  have a1':0≤a:=by simpa [IntKind.min,IntKind.signed] using a1
  have a2':a≤255:=by simpa [IntKind.max,IntKind.signed,IntKind.bits] using a2
  have e1' : -128≤e:=by simpa [IntKind.min,IntKind.signed,IntKind.bits] using e1
  have e2':e≤127:=by simpa [IntKind.max,IntKind.signed,IntKind.bits] using e2
  exact ⟨⟨a,c,e,f,s⟩,⟨a1',a2',e1',e2',c1,c2,f1,f2,hs0⟩,rfl⟩
 exact ⟨rs,⟨by rw [List.length_map] at h1;exact h1,h3⟩,rfl⟩
abbrev OO:List bg:=[.int .i64,.int .u64,.int .u64,.int .u64,.int .u64,.int .u64,.int .u64,.int .u64,.int .u64,.int .u64,.int .u64,.int .u64,.int .u64,.int .u64,.int .u64,.int .u64,.int .i64,.bool,.str,.str,.str,.list true [.str,.str],.list true [.list true [.str,.str],.int .u64],.list true [.int .u8,.int .u64,.int .i8,.int .u64,.str]]
theorem aaH {cs:List GV} (h:bg.fJ OO cs):∃b l,qH b∧Ones l∧GV.g cs=aK b (l.map one):=by
 obtain ⟨_,_,rfl,h1,g0⟩:=fM h;obtain ⟨x0,rfl,k0⟩:=Y3 h1
 obtain ⟨_,_,rfl,h1,g1⟩:=fM g0;obtain ⟨x1,rfl,k1⟩:=lI h1
 obtain ⟨_,_,rfl,h1,g2⟩:=fM g1;obtain ⟨x2,rfl,k2⟩:=lI h1
 obtain ⟨_,_,rfl,h1,g3⟩:=fM g2;obtain ⟨x3,rfl,k3⟩:=lI h1
 obtain ⟨_,_,rfl,h1,g4⟩:=fM g3;obtain ⟨x4,rfl,k4⟩:=lI h1
 obtain ⟨_,_,rfl,h1,g5⟩:=fM g4;obtain ⟨x5,rfl,k5⟩:=lI h1
 obtain ⟨_,_,rfl,h1,g6⟩:=fM g5;obtain ⟨x6,rfl,k6⟩:=lI h1
 obtain ⟨_,_,rfl,h1,g7⟩:=fM g6;obtain ⟨x7,rfl,k7⟩:=lI h1
 obtain ⟨_,_,rfl,h1,g8⟩:=fM g7;obtain ⟨x8,rfl,k8⟩:=lI h1
 obtain ⟨_,_,rfl,h1,g9⟩:=fM g8;obtain ⟨x9,rfl,k9⟩:=lI h1
 obtain ⟨_,_,rfl,h1,g10⟩:=fM g9;obtain ⟨x10,rfl,k10⟩:=lI h1
 obtain ⟨_,_,rfl,h1,g11⟩:=fM g10;obtain ⟨x11,rfl,k11⟩:=lI h1
 obtain ⟨_,_,rfl,h1,g12⟩:=fM g11;obtain ⟨x12,rfl,k12⟩:=lI h1
 obtain ⟨_,_,rfl,h1,g13⟩:=fM g12;obtain ⟨x13,rfl,k13⟩:=lI h1
 obtain ⟨_,_,rfl,h1,g14⟩:=fM g13;obtain ⟨x14,rfl,k14⟩:=lI h1
 obtain ⟨_,_,rfl,h1,g15⟩:=fM g14;obtain ⟨x15,rfl,k15⟩:=lI h1
 obtain ⟨_,_,rfl,h1,g16⟩:=fM g15;obtain ⟨x16,rfl,k16⟩:=Y3 h1
 obtain ⟨_,_,rfl,h1,g17⟩:=fM g16;obtain ⟨x17,rfl⟩:=afW h1
 obtain ⟨_,_,rfl,h1,g18⟩:=fM g17;obtain ⟨x18,rfl,k18⟩:=sK h1
 obtain ⟨_,_,rfl,h1,g19⟩:=fM g18;obtain ⟨x19,rfl,k19⟩:=sK h1
 obtain ⟨_,_,rfl,h1,g20⟩:=fM g19;obtain ⟨x20,rfl,k20⟩:=sK h1
 obtain ⟨_,_,rfl,h1,g21⟩:=fM g20;obtain ⟨x21,k21,rfl⟩:=aeu h1
 obtain ⟨_,_,rfl,h1,g22⟩:=fM g21;obtain ⟨x22,k22,rfl⟩:=ajK h1
 obtain ⟨_,_,rfl,h1,g23⟩:=fM g22;obtain ⟨x23,k23,rfl⟩:=ah3 h1
 obtain rfl:=DR g23
 exact ⟨⟨x0,x1,x2,x3,x4,x5,x6,x7,x8,x9,x10,x11,x12,x13,x14,x15,x16,x17,x18,x19,x20,x21,x22⟩,x23,⟨k0,k1,k2,k3,k4,k5,k6,k7,k8,k9,k10,k11,k12,k13,k14,k15,k16,k18,k19,k20,k21,k22⟩,k23,rfl⟩
structure ou where
 tag:Int
 use:Int
 from_:Int
 name:List UInt8
def qC (s:ou):GV:=.g [.i .u64 s.tag,.i .i64 s.use,.i .i64 s.from_,.s s.name]
@[simp] theorem apD (s:ou):(qC s).cells=[.i .u64 s.tag,.i .i64 s.use,.i .i64 s.from_,.s s.name]:=rfl
theorem spc_fold (s:ou):GV.g [.i .u64 s.tag,.i .i64 s.use,.i .i64 s.from_,.s s.name]=qC s:=rfl
def sp1:List ou:=[⟨1,0,1,[109,105,110]⟩,⟨2,0,1,[109,97,120]⟩,⟨3,3,1,[110,97,109,101]⟩,⟨4,3,2,[114,101,103,105,111,110]⟩,⟨5,0,3,[102,108,97,103,115]⟩]
def sp2:List ou:=[⟨1,0,1,[99,104,111,115,101,110]⟩,⟨2,3,1,[110,97,109,101]⟩,⟨3,3,2,[114,101,103,105,111,110]⟩]
def Jo:List ou:=[⟨1,0,1,[105,100]⟩,⟨2,4,1,[100,101,115,99,114]⟩,⟨3,0,1,[99,111,115,116]⟩,⟨4,0,2,[112,114,105,111,114,105,116,121]⟩,⟨5,0,3,[100,101,97,100,108,105,110,101]⟩]
def Jp:List ou:=[⟨1,0,1,[105,100]⟩,⟨2,1,1,[97,108,108,111,119,101,100]⟩,⟨3,2,1,[114,101,109,97,105,110,105,110,103]⟩,⟨4,0,2,[114,101,116,114,121]⟩,⟨5,3,3,[110,111,116,101]⟩]
def Jq:List ou:=[⟨1,0,1,[101,112,111,99,104]⟩,⟨2,5,1,[116,97,98,108,101]⟩,⟨3,3,2,[114,101,103,105,111,110]⟩,⟨4,0,3,[100,105,103,101,115,116]⟩]
def Jr:List ou:=[⟨1,0,2,[98,97,115,101]⟩,⟨2,0,2,[101,112,111,99,104]⟩,⟨3,5,2,[116,97,98,108,101]⟩,⟨4,3,2,[114,101,103,105,111,110]⟩,⟨5,0,3,[100,105,103,101,115,116]⟩]
def Js:List ou:=[⟨1,0,1,[101,112,111,99,104]⟩,⟨2,0,3,[108,97,103]⟩]
def Jt:List ou:=[⟨1,0,1,[101,112,111,99,104]⟩,⟨2,0,1,[99,111,100,101]⟩,⟨3,0,2,[119,97,110,116]⟩,⟨4,3,3,[110,111,116,101]⟩]
def nZ (k:Int):List ou:=if k=1 then sp1 else if k=2 then sp2 else if k=3 then Jo else if k=4 then Jp else if k=5 then Jq else if k=6 then Jr else if k=7 then Js else if k=8 then Jt else []
def fromK (k:Int):Int:=if k=1 then 1 else if k=2 then 1 else if k=3 then 1 else if k=4 then 1 else if k=5 then 1 else if k=6 then 2 else if k=7 then 1 else if k=8 then 1 else 0
def knownF (k v:Int):List ou:=(nZ k).filter fun s=>decide (s.from_≤v)
theorem hello_sp:TT.lim 38 []=some [.l (sp1.map qC)]:=by refine aA rfl rfl ?_ rfl;simp [sp1,qC]
theorem helloAck_sp:TT.lim 40 []=some [.l (sp2.map qC)]:=by refine aA rfl rfl ?_ rfl;simp [sp2,qC]
theorem checkRequest_sp:TT.lim 41 []=some [.l (Jo.map qC)]:=by refine aA rfl rfl ?_ rfl;simp [Jo,qC]
theorem checkResponse_sp:TT.lim 42 []=some [.l (Jp.map qC)]:=by refine aA rfl rfl ?_ rfl;simp [Jp,qC]
theorem fullSnapshot_sp:TT.lim 43 []=some [.l (Jq.map qC)]:=by refine aA rfl rfl ?_ rfl;simp [Jq,qC]
theorem deltaSnapshot_sp:TT.lim 44 []=some [.l (Jr.map qC)]:=by refine aA rfl rfl ?_ rfl;simp [Jr,qC]
theorem ack_sp:TT.lim 45 []=some [.l (Js.map qC)]:=by refine aA rfl rfl ?_ rfl;simp [Js,qC]
theorem reject_sp:TT.lim 46 []=some [.l (Jt.map qC)]:=by refine aA rfl rfl ?_ rfl;simp [Jt,qC]
theorem kfrom_ok (k:Int):TT.lim 36 [.i .i64 k]=some [.i .i64 (fromK k)]:=by
 refine aA rfl rfl ?_ rfl
 unfold fromK
 by_cases h1:k=1
 ·simp -implicitDefEqProofs [h1]
 by_cases h2:k=2
 ·simp -implicitDefEqProofs [h2]
 by_cases h3:k=3
 ·simp -implicitDefEqProofs [h3]
 by_cases h4:k=4
 ·simp -implicitDefEqProofs [h4]
 by_cases h5:k=5
 ·simp -implicitDefEqProofs [h5]
 by_cases h6:k=6
 ·simp -implicitDefEqProofs [h6]
 by_cases h7:k=7
 ·simp -implicitDefEqProofs [h7]
 by_cases h8:k=8
 ·simp -implicitDefEqProofs [h8]
 simp -implicitDefEqProofs [h1,h2,h3,h4,h5,h6,h7,h8]
theorem kknownL (v:Int) (l:List ou) (hl:l.length≤8):∀ (m i:Nat) (acc:List ou),i+m=l.length→acc.length≤i→
 TT.lim 39 [.i .i64 v,.l (acc.map qC),.l (l.map qC),.i .i64 l.length,.i .i64 i]=some [.i .i64 0,.l ((acc++(l.drop i).filter fun s=>decide (s.from_≤v)).map qC)]
 | 0,i,acc,hi,ha=>by
   have h0:l.drop i=[]:=List.drop_eq_nil_of_le (by omega)
   refine ay rfl rfl ?_
   have h:¬ ((i:Int) < l.length):=by omega
   simp -implicitDefEqProofs [h,h0]
 | m+1,i,acc,hi,ha=>by
   have hlt:i < l.length:=by omega
   have hd:=List.drop_eq_getElem_cons hlt
   refine ay rfl rfl ?_
   have h:((i:Int) < l.length):=by omega
   have hw:=wrap64 (n:=(i:Int)+1) (by omega) (by omega)
   have hb1:2 * (acc.length+1) * 40≤281474976710656:=by omega
   have hb2:acc.length≤281474976710655:=by omega
   have hok:(qC l[i]).fA 4=true:=rfl
   have hcast:((i:Int)+1)=((i+1:Nat):Int):=by omega
   by_cases hf:l[i].from_≤v
   ·have ih:=kknownL v l hl m (i+1) (acc++[l[i]]) (by omega) (by simp;omega)
    rw [← hcast,List.map_append] at ih
    simp only [List.map_cons,List.map_nil] at ih
    simp -implicitDefEqProofs [-List.getElem_cons_drop,h,hlt,hf,hw,spc_fold,hb1,hb2,hok,ih,hd]
   ·have ih:=kknownL v l hl m (i+1) acc (by omega) (by omega)
    rw [← hcast] at ih
    simp -implicitDefEqProofs [-List.getElem_cons_drop,h,hlt,hf,hw,ih,hd]
theorem als (k:Int):(nZ k).length≤8:=by
 unfold nZ
 repeat' split
 all_goals (first | (unfold sp1;decide) | (unfold sp2;decide) | (unfold Jo;decide) | (unfold Jp;decide) | (unfold Jq;decide) | (unfold Jr;decide) | (unfold Js;decide) | (unfold Jt;decide) | decide)
theorem kknown1 (v:Int) (l:List ou) (hl:l.length≤8):TT.lim 39 [.i .i64 v,.l [],.l (l.map qC),.i .i64 l.length,.i .i64 0]=some [.i .i64 0,.l ((l.filter fun s=>decide (s.from_≤v)).map qC)]:=by
 have:=kknownL v l hl l.length 0 [] (by omega) (by simp)
 simpa using this
theorem kknown_ok (k v:Int) (h1:1≤v) (h3:v≤3) (hk:fromK k≤v):TT.lim 37 [.i .i64 k,.i .i64 v]=some [.l ((knownF k v).map qC)]:=by
 have a1:¬ v < 1:=by omega
 have a3:¬ 3 < v:=by omega
 unfold knownF nZ
 unfold fromK at hk
 have g1:=kknown1 v sp1 (by decide)
 have g2:=kknown1 v sp2 (by decide)
 have g3:=kknown1 v Jo (by decide)
 have g4:=kknown1 v Jp (by decide)
 have g5:=kknown1 v Jq (by decide)
 have g6:=kknown1 v Jr (by decide)
 have g7:=kknown1 v Js (by decide)
 have g8:=kknown1 v Jt (by decide)
 have e1:=hello_sp
 have e2:=helloAck_sp
 have e3:=checkRequest_sp
 have e4:=checkResponse_sp
 have e5:=fullSnapshot_sp
 have e6:=deltaSnapshot_sp
 have e7:=ack_sp
 have e8:=reject_sp
 generalize sp1=p1 at *
 generalize sp2=p2 at *
 generalize Jo=p3 at *
 generalize Jp=p4 at *
 generalize Jq=p5 at *
 generalize Jr=p6 at *
 generalize Js=p7 at *
 generalize Jt=p8 at *
 refine aA rfl rfl ?_ rfl
 by_cases k1:k=1
 ·simp -implicitDefEqProofs [k1,a1,a3,e1,g1]
 by_cases k2:k=2
 ·simp -implicitDefEqProofs [k2,a1,a3,e2,g2]
 by_cases k3:k=3
 ·simp -implicitDefEqProofs [k3,a1,a3,e3,g3]
 by_cases k4:k=4
 ·simp -implicitDefEqProofs [k4,a1,a3,e4,g4]
 by_cases k5:k=5
 ·simp -implicitDefEqProofs [k5,a1,a3,e5,g5]
 by_cases k6:k=6
 ·have a2:¬ v < 2:=by subst k6;simpa using hk
  simp -implicitDefEqProofs [k6,a1,a2,a3,e6,g6]
 by_cases k7:k=7
 ·simp -implicitDefEqProofs [k7,a1,a3,e7,g7]
 by_cases k8:k=8
 ·simp -implicitDefEqProofs [k8,a1,a3,e8,g8]
 simp -implicitDefEqProofs [k1,k2,k3,k4,k5,k6,k7,k8]
theorem known_nil (k v:Int) (h1:1≤v) (h3:v≤3):knownF k v=[]↔fromK k=0∨v < fromK k:=by
 have hv:v=1∨v=2∨v=3:=by omega
 unfold knownF nZ fromK
 by_cases k1:k=1
 ·subst k1;rcases hv with rfl | rfl | rfl<;>decide
 by_cases k2:k=2
 ·subst k2;rcases hv with rfl | rfl | rfl<;>decide
 by_cases k3:k=3
 ·subst k3;rcases hv with rfl | rfl | rfl<;>decide
 by_cases k4:k=4
 ·subst k4;rcases hv with rfl | rfl | rfl<;>decide
 by_cases k5:k=5
 ·subst k5;rcases hv with rfl | rfl | rfl<;>decide
 by_cases k6:k=6
 ·subst k6;rcases hv with rfl | rfl | rfl<;>decide
 by_cases k7:k=7
 ·subst k7;rcases hv with rfl | rfl | rfl<;>decide
 by_cases k8:k=8
 ·subst k8;rcases hv with rfl | rfl | rfl<;>decide
 simp -implicitDefEqProofs [k1,k2,k3,k4,k5,k6,k7,k8]
def bH.tag:bH→Int
 | .mk t _ _ _ _=>t
theorem LJ:∀ (a:List bH),aV a=a.map oM
 | []=>rfl
 | f::a=>by simp only [aV,List.map_cons,LJ a]
mutual
def tK:bH→Nat
 | .mk _ _ _ _ l=>iD l+1
def iD:List bH→Nat
 | []=>0
 | f::l=>tK f+iD l+1
end
mutual
def AL:bH→Prop
 | .mk t y n s k=>(0≤t∧t < 18446744073709551616∧-128≤y∧y≤127∧0≤n∧n < 18446744073709551616∧s.length≤300∧k.length≤1000000)∧ig k
def ig:List bH→Prop
 | []=>True
 | f::r=>AL f∧ig r
end
theorem Gl:∀ {l:List bH},ig l→∀f∈l,AL f
 | f::l,h,g,hg=>by
   simp only [ig] at h
   rcases List.mem_cons.1 hg with rfl | hg
   ·exact h.1
   ·exact Gl h.2 g hg
theorem Py:∀ {l:List bH} {f:bH},f∈l→tK f < iD l
 | g::l,f,h=>by
   simp only [iD]
   rcases List.mem_cons.1 h with rfl | h
   ·omega
   ·have:=Py h;omega
mutual
/-- What is wrong with fields within so many lists, behind a tag. -/
def chkF1 (w:Nat):bH→Int
 | .mk _ y n s k=>if y=0 then (if s=[]∧k=[] then 0 else 8) else if y=1 then (if n=0∧k=[] then 0 else 8) else if y=2 then (if n=0∧s=[] then (if 8≤w then 9 else chkFL (w+1) 0 k) else 8) else 8
def chkFL (w:Nat) (ahead:Int):List bH→Int
 | []=>0
 | f::r=>if f.tag=0 then 18 else if 4294967296 < f.tag then 18 else if f.tag≤ahead then 7 else if chkF1 w f≠0 then chkF1 w f else chkFL w f.tag r
end
@[simp] theorem an7 (t y n:Int) (s:List UInt8) (k:List bH):(oM (.mk t y n s k)).cells=[.i .u64 t,.i .i64 y,.i .u64 n,.s s,.l (aV k)]:=by simp only [oM];rfl
theorem fldsG_nil (k:List bH):(aV k).length=0↔k=[]:=by rw [qp,List.length_eq_zero_iff]
theorem fchk_all:∀ (N:Nat) (l:List bH),iD l < N→ig l→l.length≤1000000→∀w:Nat,w≤8→TT.lim 75 [.l (aV l),.i .i64 w]=some [.i .i64 (chkFL w 0 l)]
 | 0,l,h,_,_,_,_=>by omega
 | N+1,l,hN,hok,hlen,w,hw8=>by
   have loop:∀m i (ahead:Int),i+m=l.length→TT.lim 76 [.i .i64 w,.i .u64 ahead,.l (aV l),.i .i64 l.length,.i .i64 i]=some (if chkFL w ahead (l.drop i)=0 then [.i .i64 1] else [.i .i64 0,.i .i64 (chkFL w ahead (l.drop i))]):=by
    intro m
    induction m with
    | zero=>
      intro i ahead hi
      have h0:l.drop i=[]:=List.drop_eq_nil_of_le (by omega)
      refine ay rfl rfl ?_
      have h:¬ ((i:Int) < l.length):=by omega
      simp -implicitDefEqProofs [h,h0,chkFL]
    | succ m ih=>
      intro i ahead hi
      have hlt:i < l.length:=by omega
      rw [List.drop_eq_getElem_cons hlt]
      have hf:=Gl hok l[i] (List.getElem_mem hlt)
      have hs:=Py (List.getElem_mem hlt)
      have hget:(aV l)[i]? = some (oM l[i]):=by rw [LJ,List.getElem?_map,List.getElem?_eq_getElem hlt];rfl
      have hcast:((i:Int)+1)=((i+1:Nat):Int):=by omega
      have ih':=fun a=>ih (i+1) a (by omega)
      simp only [← hcast] at ih'
      generalize l[i]=f at *
      obtain ⟨t,y,n,s,k⟩:=f
      simp only [AL] at hf
      simp only [tK] at hs
      have hwr:=wrap64 (n:=(i:Int)+1) (by omega) (by omega)
      have hww:=wrap64 (n:=(w:Int)+1) (by omega) (by omega)
      refine ay rfl rfl ?_
      have h:((i:Int) < l.length):=by omega
      have hk:=fun h=>fchk_all N k (by omega) hf.2 hf.1.2.2.2.2.2.2.2 (w+1) h
      simp only [Int.natCast_add,Int.natCast_one] at hk
      have hkl:((aV k).length=0)=(k=[]):=propext (fldsG_nil k)
      simp only [chkFL,bH.tag]
      by_cases h1:t=0
      ·simp -implicitDefEqProofs [h,hget,h1]
      by_cases h2:4294967296 < t
      ·simp -implicitDefEqProofs [h,hget,h1,h2]
      by_cases h3:t≤ahead
      ·simp -implicitDefEqProofs [h,hget,h1,h2,h3]
      simp only [chkF1]
      by_cases h4:y=0
      ·subst h4
       by_cases h5:s=[]
       ·by_cases h6:k=[]
        ·simp -implicitDefEqProofs [h,hget,h1,h2,h3,h5,h6,hwr,ih',aV]
        ·simp -implicitDefEqProofs [h,hget,h1,h2,h3,h5,h6,hwr,ih',hkl]
       ·simp -implicitDefEqProofs [h,hget,h1,h2,h3,h5]
      by_cases h7:y=1
      ·subst h7
       by_cases h5:n=0
       ·by_cases h6:k=[]
        ·simp -implicitDefEqProofs [h,hget,h1,h2,h3,h5,h6,hwr,ih',aV]
        ·simp -implicitDefEqProofs [h,hget,h1,h2,h3,h5,h6,hwr,ih',hkl]
       ·simp -implicitDefEqProofs [h,hget,h1,h2,h3,h5]
      by_cases h8:y=2
      ·subst h8
       by_cases h5:n=0
       ·by_cases h6:s=[]
        ·by_cases h9:8≤w
         ·have h9':(8:Int)≤w:=by omega
          simp -implicitDefEqProofs [h,hget,h1,h2,h3,h5,h6,h9,h9']
         ·have h9':¬ (8:Int)≤w:=by omega
          have hk:=hk (by omega)
          by_cases h10:chkFL (w+1) 0 k=0
          ·rw [h10] at hk
           simp -implicitDefEqProofs [h,hget,h1,h2,h3,h5,h6,h9,h9',hww,hk,h10,hwr,ih',bH.tag]
          ·simp -implicitDefEqProofs [h,hget,h1,h2,h3,h5,h6,h9,h9',hww,hk,h10,hwr,ih',bH.tag]
        ·simp -implicitDefEqProofs [h,hget,h1,h2,h3,h5,h6]
       ·simp -implicitDefEqProofs [h,hget,h1,h2,h3,h5]
      simp -implicitDefEqProofs [h,hget,h1,h2,h3,h4,h7,h8]
   have h0:=loop l.length 0 0 (by omega)
   rw [List.drop_zero] at h0
   refine aA rfl rfl ?_ rfl
   have hl2:=qp l
   by_cases hc:chkFL w 0 l=0
   ·rw [if_pos hc] at h0
    have h0':TT.lim 76 [.i .i64 w,.i .u64 0,.l (aV l),.i .i64 (aV l).length,.i .i64 0]=some [.i .i64 1]:=by rw [hl2];exact h0
    simp -implicitDefEqProofs [h0',hc]
   ·rw [if_neg hc] at h0
    have h0':TT.lim 76 [.i .i64 w,.i .u64 0,.l (aV l),.i .i64 (aV l).length,.i .i64 0]=some [.i .i64 0,.i .i64 (chkFL w 0 l)]:=by rw [hl2];exact h0
    simp -implicitDefEqProofs [h0',hc]
theorem fcheck_ok (l:List bH) (hok:ig l) (hlen:l.length≤1000000):TT.lim 74 [.l (aV l)]=some [.i .i64 (chkFL 0 0 l)]:=by
 have h:=fchk_all (iD l+1) l (by omega) hok hlen 0 (by omega)
 have h':TT.lim 75 [.l (aV l),.i .i64 0]=_:=h
 refine aA rfl rfl ?_ rfl
 simp -implicitDefEqProofs [h']
end B
end Go.Proofs.YtpkihgnabejkkaaGreatDoor
