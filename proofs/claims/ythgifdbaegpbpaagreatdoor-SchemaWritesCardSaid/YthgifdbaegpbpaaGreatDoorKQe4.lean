/- What the trees compute: plain laws. -/
import Derived.Test.YthgifdbaegpbpaaGreatDoorKQe3
namespace Go.Proofs.YthgifdbaegpbpaaGreatDoor
open Go Go.aP
set_option linter.unusedSimpArgs false
set_option linter.unusedVariables false
set_option maxRecDepth 100000
namespace Q
noncomputable def qM (p:Prop):Bool:=@decide p (Classical.propDecidable p)
theorem PZ {p:Prop} (h:p):qM p=true:=@decide_eq_true p (Classical.propDecidable p) h
theorem Af {p:Prop} (h:¬ p):qM p=false:=@decide_eq_false p (Classical.propDecidable p) h
theorem abv {p q:Prop} (h:p↔q):qM p=qM q:=by rw [propext h]
def kM (t y n:Int) (s:List UInt8) (k:List aJ):GV:=.g [.i .u64 t,.i .i64 y,.i .u64 n,.s s,.l (ak k)]
@[simp] theorem asN (t y n:Int) (s:List UInt8) (k:List aJ):(kM t y n s k).cells=[.i .u64 t,.i .i64 y,.i .u64 n,.s s,.l (ak k)]:=rfl
theorem vX {l:List aJ} {i:Nat} (h:i < l.length):∃t y n s k,l[i]? = some (.mk t y n s k)∧(ak l)[i]? = some (kM t y n s k)∧l.drop i=.mk t y n s k::l.drop (i+1)∧aJ.mk t y n s k∈l:=by
 have hget:(ak l)[i]? = some (gu l[i]):=by rw [mJ,List.getElem?_map,List.getElem?_eq_getElem h];rfl
 have hd:=List.drop_eq_getElem_cons h
 have hm:=List.getElem_mem h
 have hg:=List.getElem?_eq_getElem h
 cases hf:l[i] with
 | mk t y n s k=>
  rw [hf] at hget hd hm hg
  exact ⟨t,y,n,s,k,hg,by rw [hget];simp only [gu];rfl,hd,hm⟩
theorem adu:∀ (N:Nat) (a b:List aJ),cO a < N→dX a→dX b→a.length≤1000000→b.length≤1000000→TT.lim 166 [.l (ak a),.l (ak b)]=some [.b (qM (a=b))]
 | 0,a,b,hN,_,_,_,_=>by omega
 | N+1,a,b,hN,ha,hb,hla,hlb=>by
  have hl1:=iq a
  have hl2:=iq b
  by_cases hl:a.length=b.length
  rotate_left
  ·have hne:qM (a=b)=false:=Af fun e=>hl (by rw [e])
   have hc:¬ ((a.length:Int)=(b.length:Int)):=by omega
   rw [hne]
   refine aG rfl rfl ?_ rfl
   simp -implicitDefEqProofs [hl1,hl2,hc]
  have loop:∀m i,i+m=a.length→TT.lim 167 [.l (ak a),.l (ak b),.i .i64 a.length,.i .i64 i]=some [.i .i64 (if qM (a.drop i=b.drop i)=true then 1 else 0)]:=by
   intro m
   induction m with
   | zero=>
    intro i hi
    have e1:a.drop i=[]:=List.drop_eq_nil_of_le (by omega)
    have e2:b.drop i=[]:=List.drop_eq_nil_of_le (by omega)
    have h:¬ ((i:Int) < a.length):=by omega
    have ht:qM (a.drop i=b.drop i)=true:=PZ (by rw [e1,e2])
    rw [ht]
    refine aA rfl rfl ?_
    simp -implicitDefEqProofs [h]
   | succ m ih=>
    intro i hi
    obtain ⟨t,y,n,s,k,g1,g2,g3,g4⟩:=vX (l:=a) (i:=i) (by omega)
    obtain ⟨t',y',n',s',k',g1',g2',g3',g4'⟩:=vX (l:=b) (i:=i) (by omega)
    have hf:=rE ha _ g4
    have hf':=rE hb _ g4'
    simp only [pY] at hf hf'
    have hs:=zi g4
    simp only [oG] at hs
    have hk:=adu N k k' (by omega) hf.2 hf'.2 hf.1.2.2.2.2.2.2.2 hf'.1.2.2.2.2.2.2.2
    have ih':=ih (i+1) (by omega)
    have hcast:((i+1:Nat):Int)=(i:Int)+1:=by omega
    rw [hcast] at ih'
    have hwr:=wrap64 (n:=(i:Int)+1) (by omega) (by omega)
    have h:((i:Int) < a.length):=by omega
    have hda:(a.drop i=b.drop i)↔(t=t'∧y=y'∧n=n'∧s=s'∧k=k'∧a.drop (i+1)=b.drop (i+1)):=by
     rw [g3,g3'];simp [and_assoc]
    rw [abv hda]
    clear hda g1 g1' g3 g3' g4 g4' hf hf' hs
    by_cases c1:t=t'
    rotate_left
    ·rw [Af fun h=>c1 h.1]
     refine aA rfl rfl ?_
     simp -implicitDefEqProofs [h,g2,g2',c1]
    by_cases c2:y=y'
    rotate_left
    ·rw [Af fun h=>c2 h.2.1]
     refine aA rfl rfl ?_
     simp -implicitDefEqProofs [h,g2,g2',c1,c2]
    by_cases c3:n=n'
    rotate_left
    ·rw [Af fun h=>c3 h.2.2.1]
     refine aA rfl rfl ?_
     simp -implicitDefEqProofs [h,g2,g2',c1,c2,c3]
    by_cases c4:s=s'
    rotate_left
    ·rw [Af fun h=>c4 h.2.2.2.1]
     refine aA rfl rfl ?_
     simp -implicitDefEqProofs [h,g2,g2',c1,c2,c3,c4]
    by_cases c5:k=k'
    rotate_left
    ·rw [Af fun h=>c5 h.2.2.2.2.1]
     rw [Af c5] at hk
     refine aA rfl rfl ?_
     simp -implicitDefEqProofs [h,g2,g2',c1,c2,c3,c4,hk]
    rw [PZ c5] at hk
    have hq:qM (t=t'∧y=y'∧n=n'∧s=s'∧k=k'∧a.drop (i+1)=b.drop (i+1))=qM (a.drop (i+1)=b.drop (i+1)):=abv ⟨fun h=>h.2.2.2.2.2,fun h=>⟨c1,c2,c3,c4,c5,h⟩⟩
    rw [hq]
    generalize qM (a.drop (i+1)=b.drop (i+1))=r at *
    refine aA rfl rfl ?_
    simp -implicitDefEqProofs [h,g2,g2',c1,c2,c3,c4,hk,hwr,ih']
  have h0:=loop a.length 0 (by omega)
  rw [List.drop_zero,List.drop_zero] at h0
  have h0':TT.lim 167 [.l (ak a),.l (ak b),.i .i64 (ak a).length,.i .i64 0]=some [.i .i64 (if qM (a=b)=true then 1 else 0)]:=by rw [hl1];exact h0
  have hc:b.length=a.length:=by omega
  clear loop h0
  refine aG rfl rfl ?_ rfl
  generalize qM (a=b)=r at *
  rw [hl1] at h0'
  cases r with
  | true=>simp at h0';simp [hl1,hl2,hc,h0']
  | false=>simp at h0';simp [hl1,hl2,hc,h0']
mutual
def toFt:aJ→Ft
 | .mk t y n s k=>.mk [.int .u64 t,.int .i64 y,.int .u64 n,.string ⟨⟨s⟩⟩] (Bg k)
def Bg:List aJ→List Ft
 | []=>[]
 | f::l=>toFt f::Bg l
end
mutual
theorem aqr:∀f:aJ,wG (toFt f) (gu f)∧cntF (toFt f)≤oG f
 | .mk t y n s k=>by
  have h:=Tz k
  simp only [toFt,wG,gu,cntF,oG]
  exact ⟨⟨_,_,_,_,_,rfl,rfl,h.1⟩,by omega⟩
theorem Tz:∀l:List aJ,lK (Bg l) (ak l)∧kK (Bg l)≤cO l
 | []=>by simp only [Bg,lK,ak,kK,cO];exact ⟨trivial,Nat.le_refl _⟩
 | f::l=>by
  have h1:=aqr f
  have h2:=Tz l
  simp only [Bg,lK,ak,kK,cO]
  exact ⟨⟨_,_,rfl,h1.1,h2.1⟩,by omega⟩
end
theorem ahJ (l:List aJ) (hs:cO l≤1000000):TT.lim 92 [.l (ak l)]=some [.l (ak l)]:=by
 refine FW (Ds:=Ds) (k:=92) (f:=CG) rfl ?_
 have h:=Tz l
 unfold CG
 exact if_pos ⟨Bg l,h.1,by omega⟩
theorem IC:∀ (n:Nat) (l:List One) (deep:Int),cO (dR n l deep).1+2 * (dR n l deep).2.length≤2 * l.length
 | 0,l,deep=>by simp [dR,cO]
 | n+1,[],deep=>by simp [dR,cO]
 | n+1,x::l,deep=>by
  simp only [dR]
  split
  ·by_cases hx:x.deep=255
   ·rw [if_pos hx]
    have h1:=IC n l deep
    simp only [cO,oG,List.length_cons]
    omega
   ·rw [if_neg hx]
    have h1:=IC n l (x.deep+1)
    have h2:=IC n (dR n l (x.deep+1)).2 deep
    simp only [cO,oG,List.length_cons]
    omega
  ·simp -implicitDefEqProofs [cO]
theorem acf (l:List One):cO (jk l)≤2 * l.length:=by
 have:=IC (l.length+1) l 0
 unfold jk
 omega
structure uh (b:ay) (fl:List aJ):Prop where
 body:gI b
 d:gK b.d=true
 t:zx b.t
 f8:dX fl
 len:fl.length≤1000000
theorem uh.of {b:ay} {fl:List aJ} (h:uh b fl):TT.lim 20 [bH b (ak fl)]=some [bH b (ak fl)]:=acH b fl (OQ h.d) h.t h.f8 h.len
theorem alT {b:ay} {l:List One} (hb:gI b) (hl:Ones l) (h:CJ b l=true):uh b (jk l)∧cO (jk l)≤1000000∧pW l=true:=by
 unfold CJ at h
 simp only [Bool.and_eq_true] at h
 obtain ⟨hok,hlen⟩:=aj3 l hl h.2.2.2.2.2
 have h60:l.length≤60:=by
  have:=h.2.2.2.2.2
  unfold pW at this
  rw [Bool.and_eq_true,decide_eq_true_iff] at this
  exact this.2
 have hsz:=acf l
 exact ⟨⟨hb,h.2.2.2.1,aii hb.t h.2.2.2.2.1,hok,hlen⟩,by omega,h.2.2.2.2.2⟩
theorem alg (t:List Row) (ht:zx t):(tu t).length≤90000000:=by
 have h:=Si t [] (fun r hr=>⟨ht.few r hr,(ht.rows.2 r hr).2⟩)
 have h3:=ht.len
 have hv:(aQ t.length).length≤20:=by
  have:=fM (n:=t.length) (by omega)
  omega
 unfold tu
 rw [List.length_append]
 have:40000 * t.length≤40000 * 300:=Nat.mul_le_mul_left _ h3
 omega
end Q
end Go.Proofs.YthgifdbaegpbpaaGreatDoor
