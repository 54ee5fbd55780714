/- sort.Slice over elements of our own, by their texts: what the kit's contract says of it, told of nodes. -/
import Derived.Test.YtehcokoigbiciaaGreatDoorAbsJ
import Derived.Test.YtehcokoigbiciaaGreatDoorAbsPtr
import Derived.Shelf.SlSortFuncK.WholeK
import Derived.Shelf.GgSortFunc.Tiny
import Derived.Sort.LotA
namespace Go.Abs
open Go.Sort Go.Proofs
noncomputable section
set_option linter.unusedSectionVars false
set_option linter.unusedVariables false
set_option linter.unusedSimpArgs false
variable {P : Program}

theorem bytesLess_lt : ∀ a b : List UInt8, Op.bytesLess a b = decide (a < b)
  | _, [] => by simp [Op.bytesLess]
  | [], _ :: _ => by simp [Op.bytesLess]
  | a :: x, b :: y => by
    rw [Op.bytesLess, bytesLess_lt x y, Bool.eq_iff_iff]
    simp [List.cons_lt_cons_iff]

/-- Elements of three cells, the third one a text: their key. -/
def keyOf : GV → List UInt8
  | .g [_, _, .s k] => k
  | _ => []
def isKeyed : GV → Bool
  | .g [_, _, .s _] => true
  | _ => false
def kAt (xs : List GV) (i : Nat) : List UInt8 := keyOf (xs.getD i (.b false))
def ltK (xs : List GV) (i j : Nat) : Bool := Op.bytesLess (kAt xs i) (kAt xs j)
/-- Where each element goes: what sort.Slice does, to the element. -/
def idxSort (xs : List GV) : Array Nat := pdq (ltK xs) (Array.range xs.length) 0 (Array.range xs.length).size (Lib.bitLen (Array.range xs.length).size) true true
def sortG (xs : List GV) : List GV := if xs.length < 2 then xs else (idxSort xs).toList.map fun i => xs.getD i (.b false)
def sortP : List GV → Option (List GV)
  | [.l xs] => if xs.length ≤ 281474976710656 ∧ xs.all isKeyed = true then some [.l (sortG xs)] else none
  | _ => none

theorem swo_key {α : Type} [Inhabited α] (f : α → List UInt8) : SWO (fun x y => Op.bytesLess (f x) (f y)) where
  irrefl x := by rw [bytesLess_lt]; simp [List.lt_irrefl]
  trans x y z h1 h2 := by rw [bytesLess_lt] at *; simp only [decide_eq_true_eq] at *; exact List.lt_trans h1 h2
  ntrans x y z h1 h2 := by
    rw [bytesLess_lt] at *
    simp only [decide_eq_false_iff_not, List.not_lt] at *
    exact List.le_trans h2 h1

theorem idxSort_perm (xs : List GV) : (idxSort xs).size = xs.length ∧ (idxSort xs).toList.Perm (List.range xs.length) := by
  obtain ⟨h1, _, h3⟩ := (pdq_sorts (ltK xs) (swo_key (kAt xs)) (Array.range xs.length) 0 (Array.range xs.length).size (Lib.bitLen (Array.range xs.length).size) true true (Nat.zero_le _) (Nat.le_refl _) (Or.inl rfl)).1
  have h1' : (idxSort xs).size = xs.length := by unfold idxSort; rw [h1]; simp
  refine ⟨h1', ?_⟩
  have e1 : (idxSort xs).extract 0 (Array.range xs.length).size = idxSort xs := by
    have := Array.extract_size (xs := idxSort xs)
    rw [h1'] at this
    simpa using this
  have e2 : (Array.range xs.length).extract 0 (Array.range xs.length).size = Array.range xs.length := Array.extract_size
  have h3' : ((idxSort xs).extract 0 (Array.range xs.length).size).toList.Perm ((Array.range xs.length).extract 0 (Array.range xs.length).size).toList := h3
  rw [e1, e2] at h3'
  simpa using h3'
theorem map_getD_range {α : Type} (xs : List α) (d : α) : (List.range xs.length).map (fun i => xs.getD i d) = xs := by
  apply List.ext_getElem?
  intro k
  rw [List.getElem?_map]
  by_cases h : k < xs.length
  · rw [List.getElem?_range h, List.getElem?_eq_getElem h]; simp [List.getD, List.getElem?_eq_getElem h]
  · rw [List.getElem?_eq_none (by simp; omega), List.getElem?_eq_none (by omega)]; rfl
theorem sortG_perm (xs : List GV) : (sortG xs).Perm xs := by
  unfold sortG
  split
  · exact List.Perm.refl _
  · have := (idxSort_perm xs).2.map (fun i => xs.getD i (.b false))
    rwa [map_getD_range] at this
theorem sortG_length (xs : List GV) : (sortG xs).length = xs.length := (sortG_perm xs).length_eq
theorem sortG_sorted (xs : List GV) : ∀ i j : Nat, ∀ a b, i < j → (sortG xs)[i]? = some a → (sortG xs)[j]? = some b → Op.bytesLess (keyOf b) (keyOf a) = false := by
  intro i j a b hij ha hb
  unfold sortG at ha hb
  split at ha
  · next h2 =>
    rw [if_pos h2] at hb
    have := (List.getElem?_eq_some_iff.1 hb).1
    omega
  · next h2 =>
    rw [if_neg h2] at hb
    have hs := (pdq_sorts (ltK xs) (swo_key (kAt xs)) (Array.range xs.length) 0 (Array.range xs.length).size (Lib.bitLen (Array.range xs.length).size) true true (Nat.zero_le _) (Nat.le_refl _) (Or.inl rfl)).2
    have hsz := (idxSort_perm xs).1
    rw [List.getElem?_map] at ha hb
    obtain ⟨x, hx, rfl⟩ := Option.map_eq_some_iff.1 ha
    obtain ⟨y, hy, rfl⟩ := Option.map_eq_some_iff.1 hb
    have hjl : j < (idxSort xs).size := by have := (List.getElem?_eq_some_iff.1 hy).1; simpa using this
    have h := hs i j (Nat.zero_le _) hij (by simpa [hsz] using hjl)
    have ex : (idxSort xs)[i]! = x := by
      have := (List.getElem?_eq_some_iff.1 hx)
      rw [getElem!_pos _ i (by omega)]; simpa using this.2
    have ey : (idxSort xs)[j]! = y := by
      have := (List.getElem?_eq_some_iff.1 hy)
      rw [getElem!_pos _ j hjl]; simpa using this.2
    have h' : ltK xs (idxSort xs)[j]! (idxSort xs)[i]! = false := h
    rw [ex, ey] at h'
    exact h'

/-- What is asked of a program: the library's contracts, and the closure's. -/
structure SortFacts (P : Program) (fS g tS : Nat) : Prop where
  big : ∀ (enc : Nat → List Value) (lt : Nat → Nat → Bool) (lb : Array Value) (blk off c : Nat) (d : Array Nat) (w : World), (∀ x, (enc x).length = 3) → (∀ x, ∀ v ∈ enc x, v.oneCell' = true) → SWO lt → 2 ≤ d.size → d.size < 4611686018427387904 →
    LessReadsK P g lb enc 3 lt blk off d.size w → HoldsK enc 3 w blk off d → blk < w.heap.size →
    Calls P fS #[.iface tS (.slice (some ⟨blk, off, none⟩) d.size c), .func (.func g) #[] lb] w fun e w' => e = .returned (.tuple #[]) ∧ ∃ n os, w' = grow (putRowK enc 3 (Sort.ahead w n) blk off (pdq lt d 0 d.size (Lib.bitLen d.size) true true)) os
  tiny : ∀ (p : Option Addr) (n c : Nat) (lb : Array Value) (w : World), n ≤ 1 → Calls P fS #[.iface tS (.slice p n c), .func (.func g) #[] lb] w fun e w' => e = .returned (.tuple #[]) ∧ ∃ os, w' = grow w os
  less : ∀ (blk off c Bs size : Nat) (W : World) (G : Nat → ByteArray), W.cell? ⟨Bs, 0, none⟩ = some (.slice (some ⟨blk, off, none⟩) size c) → (∀ t, t < size → W.cell? ⟨blk, off + t * 3 + 2, none⟩ = some (.string (G t))) →
    ∀ i j : Nat, i < size → j < size → Calls P g #[.int .i64 i, .int .i64 j, .pointer (some ⟨Bs, 0, none⟩)] W fun e w' => e = .returned (.bool (Op.bytesLess (G i).toList (G j).toList)) ∧ ∃ q, w' = W.drewN q
  enters : ∀ args w, (callFunc fS args).run P w = .ok (.enter fS args) w

section
variable [NodesOf]
def pSort (k g tS : Nat) : PFn := fun args σ => match args with
  | [.ifc t (.sv id n), .fn g' [] [.p cid 0]] => match σ.get id, σ.get cid with
    | some (.vec n0 et f), some (.cells [.sv id' n'] ct true false) =>
      if Nat.beq t tS && Nat.beq g' g && Nat.beq n0 n && Nat.beq id' id && Nat.beq n' n && Nat.ble σ.lock id && Nat.ble σ.lock cid && !(Nat.beq id cid) && !(Nat.beq ct 0) then
        match findNd (.call k [n] 0) with
        | some m => some (.tup [], (σ.put id (.vec m et f)).put cid (.cells [.sv id m] ct true false))
        | none => none
      else none
    | _, _ => none
  | _ => none
end

/-- A block told anew. -/
theorem St.reput [TabsOf] {η : Env} {σ : ASt} {w : World} (h : SR P η σ w) {id : Nat} {o o' : AObj} (hg : σ.get id = some o) (ho : o.own = true) (ho' : o'.own = true) (hl : Live P η w id o') : St P η σ w η (σ.put id o') w := by
  have get : ∀ i u, (σ.put id o').get i = some u → (i = id ∧ u = o') ∨ (i ≠ id ∧ σ.get i = some u) := by
    intro i u hi
    rw [ASt.get_put] at hi
    split at hi
    · next e => cases hi; exact .inl ⟨e, rfl⟩
    · next e => exact .inr ⟨e, hi⟩
  have own : ∀ i u, (σ.put id o').get i = some u → u.own = true → ∃ u0, σ.get i = some u0 ∧ u0.own = true := by
    intro i u hi hu
    rcases get i u hi with ⟨rfl, rfl⟩ | ⟨_, h1⟩
    · exact ⟨o, hg, ho⟩
    · exact ⟨u, h1, hu⟩
  have any : ∀ i u, (σ.put id o').get i = some u → ∃ u0, σ.get i = some u0 := by
    intro i u hi
    rcases get i u hi with ⟨rfl, rfl⟩ | ⟨_, h1⟩
    · exact ⟨o, hg⟩
    · exact ⟨u, h1⟩
  refine ⟨Env.le.refl _, ⟨h.glob, h.dom, fun i u hi => ?_, h.ghd, fun i u i' u' p p' a1 a2 a3 a4 a5 a6 => ?_, h.roAt, fun i u p a1 a2 a3 => ?_, h.tabs⟩, Nat.le_refl _, fun _ _ _ => rfl, fun i u p h1 h2 h3 h4 => ?_, rfl, rfl, rfl, rfl, Nat.le_refl _, fun _ h => .inl h, fun _ h => .inl h⟩
  · rcases get i u hi with ⟨rfl, rfl⟩ | ⟨_, h1⟩
    · exact hl
    · exact h.live i u h1
  · obtain ⟨v, v1, v2⟩ := own i u a1 a2
    obtain ⟨v', v1'⟩ := any i' u' a3
    exact h.sep i v i' v' p p' v1 v2 v1' a4 a5 a6
  · obtain ⟨v, v1, v2⟩ := own i u a1 a2
    exact h.roSep i v p v1 v2 a3
  · obtain ⟨v, v1, v2⟩ := own i u h1 h2
    exact .inr ⟨i, v, p, v1, v2, h3, h4, rfl⟩

theorem kept_grow (w : World) (os : Array Obj) : Kept w (grow w os) := ⟨rfl, rfl, rfl, by simp, fun bl hb => by show (w.heap ++ os)[bl]? = _; rw [Array.getElem?_append_left hb]⟩

/-- The cells of elements of three cells, one behind the other. -/
theorem cellsL_div {ys : List Value} (h : ∀ y ∈ ys, y.cells.size = 3) {j : Nat} (hj : j < ys.length * 3) : (cellsL ys)[j]? = some ((ys.getD (j / 3) undef).cells.toList.getD (j % 3) undef) := by
  letI : TabsOf := Tg [] [] 0
  have hlt : j / 3 < ys.length := by omega
  have hy := List.getElem?_eq_getElem hlt
  have := cellsL_at h hy (j % 3) (by omega)
  rw [show j / 3 * 3 + j % 3 = j by omega] at this
  rw [this]
  have hs := h _ (List.getElem_mem hlt)
  rw [Array.getElem?_eq_getElem (by omega)]
  simp [List.getD, hy, hs, show j % 3 < 3 by omega]

theorem keyed_val {ro : Nat → Option Obj} {x : GV} {y : Value} (hx : isKeyed x = true) (h : GR ro x y) : ∃ a b, y = .agg #[a, b, .string ⟨⟨keyOf x⟩⟩] := by
  unfold isKeyed at hx
  split at hx
  · next g1 g2 k =>
    simp only [GR] at h
    obtain ⟨vs, rfl, h⟩ := h
    simp only [GRs, GR] at h
    obtain ⟨a, l, rfl, _, b, l2, rfl, _, c, l3, rfl, rfl, rfl⟩ := h
    exact ⟨a, b, rfl⟩
  · cases hx

theorem GRs.ones {ro : Nat → Option Obj} : ∀ {l : List GV} {vs : List Value}, GRs ro l vs → l.all GV.scalar = true → ∀ v ∈ vs, v.oneCell' = true
  | [], vs, h, _, v, hv => by simp only [GRs] at h; subst h; simp at hv
  | a :: l, vs, h, hs, v, hv => by
    simp only [GRs] at h
    obtain ⟨x, xs, rfl, h1, h2⟩ := h
    simp only [List.all_cons, Bool.and_eq_true] at hs
    rcases List.mem_cons.1 hv with rfl | hv
    · letI : TabsOf := Tg [] [] 0
      rw [oneC_eq]; exact GR.oneC h1 hs.1
    · exact GRs.ones h2 hs.2 v hv
theorem oneCells_of {ro : Nat → Option Obj} {x : GV} {y : Value} (hx : isKeyed x = true) (h : GR ro x y) (hs : x.cells.all GV.scalar = true) : ∀ v ∈ y.cells.toList, v.oneCell' = true := by
  unfold isKeyed at hx
  split at hx
  · simp only [GR] at h
    obtain ⟨vs, rfl, h⟩ := h
    exact GRs.ones h hs
  · cases hx

theorem pSort_ok {T : TabsOf} {fS g tS k : Nat} (F : SortFacts P fS g tS) (hI : ∀ gs out, T.I k gs = some out → sortP gs = some out) : @PrimOk T P fS (@pSort T.toNodesOf k g tS) := by
  letI := T
  intro args σ r σ' hs η w vs hS hv
  unfold pSort at hs
  split at hs
  rotate_left
  · cases hs
  next t bid n g' cid =>
  split at hs
  rotate_left
  · cases hs
  next n0 et f bid' n' ct hgv hgc =>
  split at hs
  rotate_left
  · cases hs
  next hcnd =>
  simp only [Bool.and_eq_true, Bool.not_eq_true'] at hcnd
  obtain ⟨⟨⟨⟨⟨⟨⟨⟨c1, c2⟩, c3⟩, c4⟩, c5⟩, c6⟩, c7⟩, c8⟩, c9⟩ := hcnd
  have c1 := (Nat.eq_of_beq_eq_true c1).symm
  have c2 := (Nat.eq_of_beq_eq_true c2).symm
  have c3 := (Nat.eq_of_beq_eq_true c3).symm
  have c4 := (Nat.eq_of_beq_eq_true c4).symm
  have c5 := (Nat.eq_of_beq_eq_true c5).symm
  have c6 := Nat.le_of_ble_eq_true c6
  have c7 := Nat.le_of_ble_eq_true c7
  have hne : bid ≠ cid := by rintro rfl; simp at c8
  have hct : ct ≠ 0 := by rintro rfl; simp at c9
  subst c1; subst c2; subst c3; subst c4; subst c5
  split at hs
  rotate_left
  · cases hs
  next m hm =>
  cases hs
  obtain ⟨x, xs1, rfl, hx, hxs⟩ := hv
  obtain ⟨y, ys1, rfl, hy, hys⟩ := hxs
  simp only [VRs] at hys
  subst hys
  simp only [VR] at hx
  obtain ⟨xv, rfl, hx⟩ := hx
  simp only [VR, VRs] at hy
  obtain ⟨us, vs, rfl, rfl, pv, l0, rfl, ⟨q2, hq2, rfl⟩, rfl⟩ := hy
  obtain ⟨xs, hxv, hx⟩ := hx
  -- the node's value
  obtain ⟨gm, m1, m2⟩ := findNd_ok hm
  simp only [Nd.den, valsOf, hxv] at m2
  split at m2
  rotate_left
  · cases m2
  next out hout =>
  have hsp := hI _ _ hout
  simp only [sortP] at hsp
  split at hsp
  rotate_left
  · cases hsp
  next hok =>
  cases hsp
  simp only [List.getElem?_cons_zero, Option.some.injEq] at m2
  subst m2
  obtain ⟨hlen, hall⟩ := hok
  -- the cell
  obtain ⟨arr, elem, fr, hb, rr⟩ := hS.at hgc hq2
  obtain ⟨w1, w2, w3⟩ := rr.whole hct
  subst w1
  have hba := w3 rfl
  have hsh := rr.shut rfl
  simp only [List.length_cons, List.length_nil] at hsh
  obtain ⟨cv, hcv0, hcv⟩ := rr.cell 0 _ rfl
  rw [hba, Nat.add_zero] at hcv0
  rw [hba, Nat.add_zero]
  have hlock : ∀ o, (σ.put bid o).lock = σ.lock := fun _ => rfl
  -- the last step: the cell told anew
  have fin : ∀ w', St P η σ w η (σ.put bid (.vec m et f)) w' → w'.heap[q2.bl]? = w.heap[q2.bl]? → VR η (.sv bid m) cv → ∃ η' , St P η σ w η' ((σ.put bid (.vec m et f)).put cid (.cells [.sv bid m] elem true false)) w' ∧ VR η' (.tup []) (.tuple #[]) := by
    intro w' hst hb' hv'
    refine ⟨η, ?_, by simp only [VR]; exact ⟨[], rfl, by simp [VRs]⟩⟩
    have hgc' : (σ.put bid (.vec m et f)).get cid = some (.cells [.sv bid n] elem true false) := by rw [ASt.get_put, if_neg (fun e => hne e.symm)]; exact hgc
    refine hst.trans (St.reput (o' := .cells [.sv bid m] elem true false) hst.rel hgc' rfl rfl (.inl ⟨q2, hq2, arr, elem, fr, ?_, ?_⟩))
    · rw [hb', hb]
    · refine { fits := rr.fits, le := by simp; omega, shut := fun _ => by simp; omega, cell := fun kk a hk => ?_, free := rr.free, whole := fun _ => ⟨rfl, w2, fun _ => hba⟩, room := fun h => by cases h }
      match kk, hk with
      | 0, hk => simp at hk; subst hk; exact ⟨cv, by rw [hba, Nat.add_zero]; exact hcv0, hv'⟩
      | kk + 1, hk => simp at hk
  rcases hx with ⟨q, hq, hle, rfl⟩ | ⟨hgh, hnil, rfl⟩
  rotate_left
  · -- no slice at all
    subst hnil
    have hcv' : cv = .slice none 0 0 := by
      simp only [VR] at hcv
      obtain ⟨xs2, e2, hcv⟩ := hcv
      rw [hxv] at e2; cases e2
      rcases hcv with ⟨q', hq', _⟩ | ⟨_, _, rfl⟩
      · have := (hS.ghd _ hgh).1; rw [this] at hq'; cases hq'
      · rfl
    subst hcv'
    have hc := F.tiny none 0 0 #[.pointer (some ⟨q2.bl, 0, none⟩)] w (by omega)
    refine .inr ⟨F.enters _ w, Calls.mono' hc ?_⟩
    rintro e w' ⟨rfl, os, rfl⟩
    have hk := kept_grow w os
    have s1 := St.of_kept hS hk
    have hm1 : TabsOf.val m = some (.l []) := m1
    have s2 := s1.trans (St.reput (o' := .vec m et f) s1.rel hgv rfl rfl (.inr ⟨hgh, m, et, f, rfl, hm1⟩))
    obtain ⟨η', f1, f2⟩ := fin _ s2 (hk.keep _ (getLt hb)) (by simp only [VR]; exact ⟨[], hm1, .inr (by simp [hgh])⟩)
    exact ⟨_, rfl, η', f1, f2⟩
  have hov := hS.at hgv hq
  obtain ⟨xs', cs, elem2, fr2, ys, o1, o2, o3, o4, o5, o6, o7, o8, o9⟩ := hov
  rw [hxv] at o1; cases o1
  have hyl : ys.length = xs.length := o3.length.symm
  have hcv' : cv = .slice (some ⟨q.bl, q.ba, none⟩) xs.length (q.sz / q.es) := by
    simp only [VR] at hcv
    obtain ⟨xs2, e2, hcv⟩ := hcv
    rw [hxv] at e2; cases e2
    rcases hcv with ⟨q', hq', _, rfl⟩ | ⟨hg', _⟩
    · rw [hq] at hq'; cases hq'; rfl
    · have := (hS.ghd _ hg').1; rw [hq] at this; cases this
  have hvc : VR η (.sv bid m) cv := by rw [hcv']; simp only [VR]; exact ⟨sortG xs, m1, .inl ⟨q, hq, by rw [sortG_length]; exact hle, by rw [sortG_length]⟩⟩
  have hbl : q2.bl ≠ q.bl := hS.sep cid _ bid _ q2 q hgc rfl hgv (fun e => hne e.symm) hq2 hq
  by_cases h2 : xs.length < 2
  · have hsg : sortG xs = xs := by unfold sortG; rw [if_pos h2]
    have hc := F.tiny (some ⟨q.bl, q.ba, none⟩) xs.length (q.sz / q.es) #[.pointer (some ⟨q2.bl, 0, none⟩)] w (by omega)
    refine .inr ⟨F.enters _ w, Calls.mono' hc ?_⟩
    rintro e w' ⟨rfl, os, rfl⟩
    have hk := kept_grow w os
    have s1 := St.of_kept hS hk
    have s2 := s1.trans (St.reput (o' := .vec m et f) s1.rel hgv rfl rfl (.inl ⟨q, hq, xs, cs, elem2, fr2, ys, by rw [m1, hsg], by rw [hk.keep _ (getLt o2)]; exact o2, o3, o4, o5, o6, o7, o8, o9⟩))
    obtain ⟨η', f1, f2⟩ := fin _ s2 (hk.keep _ (getLt hb)) hvc
    exact ⟨_, rfl, η', f1, f2⟩
  -- two elements or more
  have hrow : ∀ i, i < ys.length → ∃ a b, ys.getD i undef = .agg #[a, b, .string ⟨⟨kAt xs i⟩⟩] := by
    intro i hi
    have hxi : xs[i]? = some (xs[i]'(by omega)) := List.getElem?_eq_getElem _
    obtain ⟨y, hy1, hy2⟩ := o3.at hxi
    have hki : kAt xs i = keyOf (xs[i]'(by omega)) := by unfold kAt; simp [List.getD, hxi]
    obtain ⟨a, b, e⟩ := keyed_val (List.all_eq_true.1 hall _ (List.getElem_mem (by omega))) hy2
    exact ⟨a, b, by simp only [List.getD, hy1, Option.getD_some, e, hki]⟩
  have hes : q.es = 3 := by
    obtain ⟨a, b, e⟩ := hrow 0 (by omega)
    have h0 : ys.getD 0 undef ∈ ys := by simp only [List.getD, List.getElem?_eq_getElem (show 0 < ys.length by omega), Option.getD_some]; exact List.getElem_mem _
    have := o4 _ h0
    rw [e] at this
    exact this.symm
  have o4' : ∀ y ∈ ys, y.cells.size = 3 := fun y hy => by rw [o4 y hy, hes]
  let dfl : Value := .agg #[.bool false, .bool false, .string ⟨⟨[]⟩⟩]
  let enc : Nat → List Value := fun i => (ys.getD i dfl).cells.toList
  have hencd : ∀ i, i < ys.length → enc i = (ys.getD i undef).cells.toList := by
    intro i hi
    show (ys.getD i dfl).cells.toList = _
    simp [List.getD, List.getElem?_eq_getElem hi]
  have hencn : ∀ i, ¬ i < ys.length → enc i = [.bool false, .bool false, .string ⟨⟨[]⟩⟩] := by
    intro i hi
    show (ys.getD i dfl).cells.toList = _
    simp [List.getD, List.getElem?_eq_none (show ys.length ≤ i by omega)]; rfl
  have hk3 : ∀ i, ∃ a b, enc i = [a, b, .string ⟨⟨kAt xs i⟩⟩] := by
    intro i
    by_cases hi : i < ys.length
    · obtain ⟨a, b, e⟩ := hrow i hi
      exact ⟨a, b, by rw [hencd i hi, e]; rfl⟩
    · refine ⟨.bool false, .bool false, ?_⟩
      rw [hencn i hi]
      have : kAt xs i = [] := by unfold kAt; simp [List.getD, List.getElem?_eq_none (show xs.length ≤ i by omega), keyOf]
      rw [this]
  have henc3 : ∀ i, (enc i).length = 3 := by intro i; obtain ⟨a, b, e⟩ := hk3 i; rw [e]; rfl
  have hone : ∀ i, ∀ v ∈ enc i, v.oneCell' = true := by
    intro i v hv
    by_cases hi : i < ys.length
    · rw [hencd i hi] at hv
      have hxi : xs[i]? = some (xs[i]'(by omega)) := List.getElem?_eq_getElem _
      obtain ⟨y, hy1, hy2⟩ := o3.at hxi
      have : ys.getD i undef = y := by simp [List.getD, hy1]
      rw [this] at hv
      have hsc := o8 _ (List.getElem_mem (show i < xs.length by omega))
      exact oneCells_of (List.all_eq_true.1 hall _ (List.getElem_mem (by omega))) hy2 hsc v hv
    · rw [hencn i hi] at hv
      simp only [List.mem_cons, List.mem_nil_iff, or_false] at hv
      rcases hv with rfl | rfl | rfl <;> rfl
  have hkk : ∀ i, (enc i)[2]! = .string ⟨⟨kAt xs i⟩⟩ := by intro i; obtain ⟨a, b, e⟩ := hk3 i; rw [e]; rfl
  have hdr : ∀ i, i < xs.length → (Array.range xs.length)[i]! = i := by
    intro i hi
    rw [getElem!_pos _ i (by simpa using hi)]; simp
  have hH : HoldsK enc 3 w q.bl q.ba (Array.range xs.length) := by
    intro j hj
    rw [size_flatK, Array.size_range] at hj
    rw [get_flatK _ _ _ _ (by rw [Array.size_range]; exact hj), hdr _ (by omega), hencd _ (by omega)]
    have h1 := o5 j _ (cellsL_div o4' (by omega))
    refine ⟨?_, ?_⟩
    · simp only [World.cell?, o2]
      rw [if_neg (by simp), h1]
      have : ((ys.getD (j / 3) undef).cells.toList).length = 3 := by
        have h0 : ys.getD (j / 3) undef ∈ ys := by simp only [List.getD, List.getElem?_eq_getElem (show j / 3 < ys.length by omega), Option.getD_some]; exact List.getElem_mem _
        simpa using o4' _ h0
      rw [getElem!_pos _ (j % 3) (by omega)]
      show some (((ys.getD (j / 3) undef).cells.toList)[j % 3]?.getD undef) = some (((ys.getD (j / 3) undef).cells.toList)[j % 3]'_)
      rw [List.getElem?_eq_getElem (show j % 3 < ((ys.getD (j / 3) undef).cells.toList).length by omega)]
      rfl
    · have hsz : j < q.sz := by rw [hes] at o6; omega
      have := o7.free rfl j hsz
      simp only [World.frozen?, o2]
      simpa using fun h => by omega
  have hlt : Array.size (Array.range xs.length) = xs.length := Array.size_range
  have hblk : q.bl < w.heap.size := getLt o2
  have hblk2 : q2.bl < w.heap.size := getLt hb
  have hless : LessReadsK P g #[.pointer (some ⟨q2.bl, 0, none⟩)] enc 3 (ltK xs) q.bl q.ba (Array.range xs.length).size w := by
    intro mm os dk hds i j hi hj
    have hHg : HoldsK enc 3 (sortWorldK enc 3 w q.bl q.ba mm dk os) q.bl q.ba dk := by
      unfold sortWorldK
      exact holdsK_grow enc 3 _ os q.bl q.ba dk (by simpa [putRowK] using hblk) (holdsK_putRowK enc 3 _ q.bl q.ba (Array.range xs.length) dk (holdsK_ahead enc 3 w mm q.bl q.ba _ hH) hds)
    have h1 := F.less q.bl q.ba (q.sz / q.es) q2.bl xs.length (sortWorldK enc 3 w q.bl q.ba mm dk os) (fun t => ⟨⟨kAt xs dk[t]!⟩⟩) (by
      unfold sortWorldK
      rw [cell?_grow _ _ _ (by simpa [putRowK] using hblk2), cell?_putRowK_other enc 3 _ q.bl q.ba dk _ hbl, cell?_ahead]
      simp only [World.cell?, hb]
      rw [if_neg (by simp), hcv0, hcv']) (fun t ht => by
      have := (hHg.cell (i := t) (c := 2) (by rw [hds, hlt]; exact ht) (by omega)).1
      rw [this, hkk]) i j (by omega) (by omega)
    simp only [toList_mk] at h1
    exact h1
  have hc := F.big enc (ltK xs) #[.pointer (some ⟨q2.bl, 0, none⟩)] q.bl q.ba (q.sz / q.es) (Array.range xs.length) w henc3 hone (swo_key (kAt xs)) (by omega) (by omega) hless hH hblk
  rw [hlt] at hc
  refine .inr ⟨F.enters _ w, Calls.mono' hc ?_⟩
  rintro e w' ⟨rfl, nn, os, rfl⟩
  have hidx : pdq (ltK xs) (Array.range xs.length) 0 xs.length (Lib.bitLen xs.length) true true = idxSort xs := by unfold idxSort; rw [hlt]
  rw [hidx]
  obtain ⟨p1, p2⟩ := idxSort_perm xs
  have hmem : ∀ i ∈ (idxSort xs).toList, i < xs.length := fun i hi => List.mem_range.1 (p2.mem_iff.1 hi)
  have hheap : (grow (putRowK enc 3 (Sort.ahead w nn) q.bl q.ba (idxSort xs)) os).heap[q.bl]? = some (.cells (Go.Sort.putCells id q.ba (flatK enc 3 (idxSort xs)) cs) elem2 fr2) := by
    show ((w.heap.modify q.bl (onCells (Go.Sort.putCells id q.ba (flatK enc 3 (idxSort xs))))) ++ os)[q.bl]? = _
    rw [Array.getElem?_append_left (by simpa using hblk), Array.getElem?_modify, if_pos rfl, o2]
    rfl
  have hother : ∀ bl, bl < w.heap.size → bl ≠ q.bl → (grow (putRowK enc 3 (Sort.ahead w nn) q.bl q.ba (idxSort xs)) os).heap[bl]? = w.heap[bl]? := by
    intro bl h1 h2
    show ((w.heap.modify q.bl (onCells (Go.Sort.putCells id q.ba (flatK enc 3 (idxSort xs))))) ++ os)[bl]? = _
    rw [Array.getElem?_append_left (by simpa using h1), Array.getElem?_modify, if_neg (fun e => h2 e.symm)]
  have hsgl : sortG xs = (idxSort xs).toList.map fun i => xs.getD i (.b false) := by unfold sortG; rw [if_neg h2]
  let ys' : List Value := (idxSort xs).toList.map fun i => ys.getD i dfl
  have hys'3 : ∀ y ∈ ys', y.cells.size = 3 := by
    intro y hy
    obtain ⟨i, hi, rfl⟩ := List.mem_map.1 hy
    have := henc3 i
    simpa [enc] using this
  have hcells : cellsAt (Go.Sort.putCells id q.ba (flatK enc 3 (idxSort xs)) cs) q.ba (cellsL ys') := by
    intro kk v hkv
    have hyl' : ys'.length = xs.length := by simp [ys', p1]
    have hkl : kk < ys'.length * 3 := by
      have := (List.getElem?_eq_some_iff.1 hkv).1
      rwa [cellsL_length hys'3] at this
    rw [cellsL_div hys'3 hkl] at hkv
    cases hkv
    have hsz : kk < q.sz := by rw [hes] at o6; omega
    have hin : q.ba + kk < cs.size := by have := o7.fits; omega
    unfold Go.Sort.putCells
    rw [Array.getElem?_mapIdx, Array.getElem?_eq_getElem hin]
    simp only [Option.map_some, size_flatK, p1]
    rw [if_pos ⟨by omega, by omega⟩, Nat.add_sub_cancel_left, get_flatK _ _ _ _ (by rw [p1]; omega)]
    have hki : kk / 3 < (idxSort xs).size := by omega
    have e1 : ys'.getD (kk / 3) undef = ys.getD (idxSort xs)[kk / 3]! dfl := by
      simp only [ys', List.getD, List.getElem?_map]
      rw [getElem!_pos _ (kk / 3) hki]
      simp [hki]
    rw [e1]
    have e2 := henc3 (idxSort xs)[kk / 3]!
    show some (id ((enc (idxSort xs)[kk / 3]!)[kk % 3]!)) = some ((enc (idxSort xs)[kk / 3]!).getD (kk % 3) undef)
    rw [getElem!_pos _ (kk % 3) (by omega)]
    simp only [List.getD, List.getElem?_eq_getElem (show kk % 3 < (enc (idxSort xs)[kk / 3]!).length by omega), Option.getD_some, id]
  have hgrs : GRs η.ro (sortG xs) ys' := by
    rw [hsgl]
    refine GRs.ofFn _ fun i hi => ?_
    have hil := hmem i hi
    have hxi : xs[i]? = some (xs[i]'hil) := List.getElem?_eq_getElem _
    obtain ⟨y, hy1, hy2⟩ := o3.at hxi
    simp only [List.getD, hxi, hy1, Option.getD_some]
    exact hy2
  have hsc : ∀ x ∈ sortG xs, x.cells.all GV.scalar = true := fun x hx => o8 x ((sortG_perm xs).mem_iff.1 hx)
  have s2 := St.ofRoAt (ro' := η.ro) (o' := .vec m et f) (w' := grow (putRowK enc 3 (Sort.ahead w nn) q.bl q.ba (idxSort xs)) os) hS hgv rfl rfl c6 hq
    ⟨⟨rfl, rfl, rfl, by simp [putRowK], fun bl h1 h2 => hother bl h1 h2⟩, fun _ _ h => h, fun b hb => .inl hb, fun b o hb => by
      have hb1 := hS.roAt b o hb
      rw [hother b (getLt hb1) (fun e => by subst e; rw [hS.roSep bid _ q hgv rfl hq] at hb; cases hb)]; exact hb1, hS.roSep bid _ q hgv rfl hq⟩
    ⟨sortG xs, _, elem2, fr2, ys', m1, hheap, hgrs, fun y hy => by rw [hys'3 y hy, hes], hcells, by rw [sortG_length]; exact o6,
      { fits := by simpa [Go.Sort.putCells] using o7.fits, le := o7.le, shut := o7.shut, cell := fun kk a hk => by simp at hk, free := o7.free, whole := fun h => by obtain ⟨a1, a2, a3⟩ := o7.whole h; exact ⟨a1, by simpa [Go.Sort.putCells] using a2, a3⟩, room := o7.room }, hsc, o9⟩
  obtain ⟨η', f1, f2⟩ := fin _ s2 (hother _ hblk2 hbl) hvc
  exact ⟨_, rfl, η', f1, f2⟩
end
end Go.Abs
