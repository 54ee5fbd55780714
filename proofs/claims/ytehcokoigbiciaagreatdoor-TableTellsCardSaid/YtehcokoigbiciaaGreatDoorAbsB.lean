/- The operations, one by one: what the model's operation does where the evaluator's answers. -/
import Derived.Test.YtehcokoigbiciaaGreatDoorAbsA
import Derived.Lib.Builder

/-! # AbsOps1 -/
namespace Go.Abs
noncomputable section
variable [TabsOf]
set_option linter.unusedSectionVars false
set_option linter.unusedVariables false
set_option linter.unusedSimpArgs false
variable {P : Program} {η : Env} {σ σ' : ASt} {w : World}

theorem run_under {t : TypeId} {d : TypeDesc} (h : P.underlying t = some d) : (underlying t).run P w = .ok d w := by
  simp [underlying, program, Sem.run, h]
theorem run_size {t : TypeId} {n : Nat} (h : sizeT P t = some n) : (sizeOf t).run P w = .ok n w := by
  simp only [sizeT, Option.map_eq_some_iff] at h
  obtain ⟨i, hi, rfl⟩ := h
  simp [sizeOf, typeInfo, program, Sem.run, hi]
theorem run_isAgg {t : TypeId} {b : Bool} (h : isAggT P t = some b) : (isAgg t).run P w = .ok b w := by
  unfold isAggT at h
  split at h <;> cases h
  · next h' => simp [isAgg, run_under h']
  · next h' => simp [isAgg, run_under h']
  · next d h' h1 h2 =>
    cases d <;> simp_all [isAgg, run_under]
theorem run_info {t : TypeId} {i : TypeInfo} (h : P.info? t = some i) : (typeInfo t).run P w = .ok i w := by
  simp [typeInfo, program, Sem.run, h]

theorem oneC_cells {v : Value} (h : oneC v = true) : v.cells = #[v] := by cases v <;> simp [oneC] at h <;> rfl
theorem GR.oneC {ro : Nat → Option Obj} {g : GV} {v : Value} (h : GR ro g v) (hs : g.scalar = true) : oneC v = true := by
  cases g <;> simp only [GR] at h
  case g cs => cases hs
  case l xs => rcases h with ⟨_, _, rfl⟩ | ⟨bl, off, c, ys, sz, rfl, _⟩ <;> rfl
  all_goals subst h; rfl
def AV.sym : AV → Bool
  | .nd _ | .rx _ _ | .sv _ _ | .pv _ _ _ | .pd _ _ => true
  | _ => false
theorem VR.symC {a : AV} {v : Value} (ha : a.sym = true) (h : VR η a v) : oneC v = true := by
  cases a <;> simp only [VR] at h <;> first | (cases ha; done) | skip
  case nd n => obtain ⟨g, _, h2, h3⟩ := h; exact h3.oneC h2
  case rx n off => obtain ⟨g, bl, base, cs, elem, fr, x, h1, h2, h3, rfl, _⟩ := h; rfl
  case sv id n => obtain ⟨xs, _, ⟨q, _, _, rfl⟩ | ⟨_, _, rfl⟩⟩ := h <;> rfl
  case pv id n off => obtain ⟨q, k, i, _, _, rfl⟩ := h; rfl
  case pd id n => obtain ⟨xs, p, _, rfl, _⟩ := h; rfl
theorem cells_sym {a : AV} {v : Value} (ha : a.sym = true) (h : VR η a v) : VRs η a.cells v.cells.toList := by
  have h1 := oneC_cells (VR.symC ha h)
  have h2 : a.cells = [a] := by cases a <;> first | rfl | (cases ha)
  rw [h1, h2]
  exact VRs.cons h (by simp [VRs])
theorem cells_VRs {a : AV} {v : Value} (h : VR η a v) : VRs η a.cells v.cells.toList := by
  by_cases hs : a.sym = true
  · exact cells_sym hs h
  cases a <;> first | (exact absurd rfl hs) | skip
  all_goals simp only [VR] at h
  case agg l => obtain ⟨vs, rfl, h1⟩ := h; simpa [AV.cells, Value.cells] using h1
  case tup l => obtain ⟨vs, rfl, h1⟩ := h; simp only [AV.cells, Value.cells]; exact VRs.cons (by simp only [VR]; exact ⟨vs, rfl, h1⟩) (by simp [VRs])
  case p id off => obtain ⟨q, hq, rfl⟩ := h; exact VRs.cons (by simp only [VR]; exact ⟨q, hq, rfl⟩) (by simp [VRs])
  case sl id off len cap => obtain ⟨q, hq, hle, rfl⟩ := h; exact VRs.cons (by simp only [VR]; exact ⟨q, hq, hle, rfl⟩) (by simp [VRs])
  case mp id => obtain ⟨q, hq, rfl⟩ := h; exact VRs.cons (by simp only [VR]; exact ⟨q, hq, rfl⟩) (by simp [VRs])
  case fn f fi cs => obtain ⟨us, vs, rfl, h1, h2⟩ := h; exact VRs.cons (by simp only [VR]; exact ⟨us, vs, rfl, h1, h2⟩) (by simp [VRs])
  case ifc t b => obtain ⟨x, rfl, h1⟩ := h; exact VRs.cons (by simp only [VR]; exact ⟨x, rfl, h1⟩) (by simp [VRs])
  case z k lo hi => obtain ⟨n, h1, h2, rfl⟩ := h; exact VRs.cons (by simp only [VR]; exact ⟨n, h1, h2, rfl⟩) (by simp [VRs])
  case ro l =>
    have h' : VR η (.ro l) v := by simp only [VR]; exact h
    rcases h with ⟨_, _, rfl⟩ | ⟨bl, off, c, xs, sz, rfl, h1⟩
    · exact VRs.cons h' (by simp [VRs])
    · exact VRs.cons h' (by simp [VRs])
  case rp a off => obtain ⟨bl, base, cs, elem, fr, x, h1, h2, rfl, h3⟩ := h; exact VRs.cons (by simp only [VR]; exact ⟨bl, base, cs, elem, fr, x, h1, h2, rfl, h3⟩) (by simp [VRs])
  all_goals subst h; exact VRs.cons (by simp only [VR]) (by simp [VRs])

theorem oneC_of {a : AV} {v : Value} (h : VR η a v) (ha : a.isAddrOrScalar = true) : oneC v = true := by
  by_cases hs : a.sym = true
  · exact h.symC hs
  cases a <;> first | (exact absurd rfl hs) | skip
  all_goals simp only [VR] at h
  all_goals simp [AV.isAddrOrScalar] at ha
  case p id off => obtain ⟨q, hq, rfl⟩ := h; rfl
  case sl id off len cap => obtain ⟨q, hq, _, rfl⟩ := h; rfl
  case mp id => obtain ⟨q, hq, rfl⟩ := h; rfl
  case fn f fi cs => obtain ⟨us, vs, rfl, h1, h2⟩ := h; rfl
  case ifc t b => obtain ⟨x, rfl, h1⟩ := h; rfl
  case z k lo hi => obtain ⟨n, h1, h2, rfl⟩ := h; rfl
  case ro l => rcases h with ⟨_, _, rfl⟩ | ⟨bl, off, c, xs, sz, rfl, h1⟩ <;> rfl
  case rp a off => obtain ⟨bl, base, cs, elem, fr, x, h1, h2, rfl, h3⟩ := h; rfl
  all_goals subst h; rfl

/-! ### Elements that nobody changes -/
theorem cellsL_length {xs : List Value} {sz : Nat} (h : ∀ x ∈ xs, x.cells.size = sz) : (cellsL xs).length = xs.length * sz := by
  induction xs with
  | nil => simp [cellsL]
  | cons x xs ih =>
    have h0 := h x (by simp)
    have := ih fun y hy => h y (by simp [hy])
    simp only [cellsL, List.flatMap_cons, List.length_append, List.length_cons] at this ⊢
    rw [this, Nat.add_mul, Nat.one_mul, Nat.add_comm]
    simp [h0]
theorem cellsL_drop {xs : List Value} {sz : Nat} (h : ∀ x ∈ xs, x.cells.size = sz) (i : Nat) : (cellsL xs).drop (i * sz) = cellsL (xs.drop i) := by
  induction xs generalizing i with
  | nil => simp [cellsL]
  | cons x xs ih =>
    cases i with
    | zero => simp
    | succ i =>
      have h0 := h x (by simp)
      have := ih (fun y hy => h y (by simp [hy])) i
      simp only [List.drop_succ_cons]
      rw [← this]
      simp only [cellsL, List.flatMap_cons]
      have hl : x.cells.toList.length = sz := by simpa using h0
      rw [show (i + 1) * sz = x.cells.toList.length + i * sz by rw [hl, Nat.add_mul, Nat.one_mul, Nat.add_comm]]
      rw [List.drop_append, List.drop_of_length_le (by omega), List.nil_append, Nat.add_sub_cancel_left]
theorem cellsL_take {xs : List Value} {sz : Nat} (h : ∀ x ∈ xs, x.cells.size = sz) (i : Nat) : (cellsL xs).take (i * sz) = cellsL (xs.take i) := by
  induction xs generalizing i with
  | nil => simp [cellsL]
  | cons x xs ih =>
    cases i with
    | zero => simp [cellsL]
    | succ i =>
      have h0 := h x (by simp)
      have := ih (fun y hy => h y (by simp [hy])) i
      simp only [List.take_succ_cons]
      simp only [cellsL, List.flatMap_cons] at this ⊢
      have hl : x.cells.toList.length = sz := by simpa using h0
      rw [show (i + 1) * sz = x.cells.toList.length + i * sz by rw [hl, Nat.add_mul, Nat.one_mul, Nat.add_comm]]
      rw [List.take_length_add_append, this]
theorem cellsL_at {xs : List Value} {sz i : Nat} {x : Value} (h : ∀ x ∈ xs, x.cells.size = sz) (hi : xs[i]? = some x) (k : Nat) (hk : k < sz) : (cellsL xs)[i * sz + k]? = x.cells[k]? := by
  have h1 := cellsL_drop h i
  have hlt := (List.getElem?_eq_some_iff.1 hi).1
  have hd : xs.drop i = x :: xs.drop (i + 1) := by
    rw [← (List.getElem?_eq_some_iff.1 hi).2]; exact List.drop_eq_getElem_cons hlt
  have : (cellsL xs)[i * sz + k]? = ((cellsL xs).drop (i * sz))[k]? := by rw [List.getElem?_drop]
  rw [this, h1, hd]
  have hs := h x (List.mem_of_getElem? hi)
  simp only [cellsL, List.flatMap_cons]
  rw [List.getElem?_append_left (by simpa [hs] using hk)]
  simp
theorem cells_length {a : AV} {v : Value} (h : VR η a v) : a.cells.length = v.cells.size := by
  have := (cells_VRs h).length; simpa using this
theorem flat_VRs {l : List AV} {xs : List Value} (h : VRs η l xs) : VRs η (l.flatMap AV.cells) (cellsL xs) := by
  induction l generalizing xs with
  | nil => simp only [VRs] at h; subst h; simp [VRs, cellsL]
  | cons a l ih =>
    simp only [VRs] at h
    obtain ⟨x, ys, rfl, h1, h2⟩ := h
    simp only [List.flatMap_cons, cellsL]
    exact VRs.append (cells_VRs h1) (ih h2)
theorem all_size {l : List AV} {xs : List Value} {n : Nat} (h : VRs η l xs) (ha : l.all (fun a => a.cells.length == n) = true) : ∀ x ∈ xs, x.cells.size = n := by
  intro x hx
  obtain ⟨k, hk⟩ := List.mem_iff_getElem?.1 hx
  have hlt : k < l.length := by have := (List.getElem?_eq_some_iff.1 hk).1; have := h.length; omega
  obtain ⟨y, hy, hvy⟩ := h.at (List.getElem?_eq_getElem hlt)
  rw [hk] at hy; cases hy
  have := List.all_eq_true.1 ha _ (List.getElem_mem hlt)
  rw [← cells_length hvy]
  simpa using this
/-- An element, and where it lies. -/
theorem ro_elem {l : List AV} {v : Value} (h : VR η (.ro l) v) {i size : Nat} {a : AV} (hi : l[i]? = some a) (hs : a.cells.length = size) :
    ∃ bl off c cs elem fr x, v = .slice (some ⟨bl, off, none⟩) l.length c ∧ l.length ≤ c ∧ η.ro bl = some (.cells cs elem fr) ∧ VR η a x ∧ off + i * size + x.cells.size ≤ cs.size ∧ cellsAt cs (off + i * size) x.cells.toList := by
  simp only [VR] at h
  rcases h with ⟨rfl, _⟩ | ⟨bl, off, c, xs, sz, rfl, hc, h1, h2, h3⟩
  · simp at hi
  obtain ⟨x, hx, hvx⟩ := h1.at hi
  obtain ⟨cs, elem, fr, h4, h5, h6⟩ := h3 (by intro e; subst e; simp at hi)
  have hsz := h2 x (List.mem_of_getElem? hx)
  have : sz = size := by rw [← hsz, ← cells_length hvx, hs]
  subst this
  have hlen := cellsL_length h2
  have hlt := (List.getElem?_eq_some_iff.1 hx).1
  have hmul : (i + 1) * sz ≤ xs.length * sz := Nat.mul_le_mul_right _ hlt
  rw [Nat.add_mul, Nat.one_mul] at hmul
  refine ⟨bl, off, c, cs, elem, fr, x, rfl, hc, h4, hvx, by omega, fun k y hk => ?_⟩
  have hks : k < sz := by have := (List.getElem?_eq_some_iff.1 hk).1; simp at this; omega
  have := h6 (i * sz + k) y (by rw [cellsL_at h2 hx k hks]; simpa using hk)
  rw [← Nat.add_assoc] at this
  exact this

theorem run_zero {t : TypeId} {zc : List AV} (h : zeroCellsOf P t = some zc) : ∃ z, (∀ w, (zeroValue t).run P w = .ok z w) ∧ ∀ η : Env, VRs η zc z.cells.toList := by
  unfold zeroCellsOf at h
  split at h
  · next i hi =>
    split at h
    · next z hz =>
      simp only [Option.map_eq_some_iff] at h
      obtain ⟨a, ha, rfl⟩ := h
      exact ⟨z, fun w => by simp [zeroValue, run_info hi, hz], fun η => cells_VRs (ofVal_VR _ _ _ ha)⟩
    · cases h
  · cases h

theorem takeN_some {l r : List AV} {off n : Nat} (h : takeN l off n = some r) : r = (l.drop off).take n ∧ r.length = n ∧ (n = 0 ∨ off + n ≤ l.length) := by
  simp only [takeN] at h
  split at h
  · next h1 =>
    cases h
    refine ⟨rfl, h1, ?_⟩
    simp at h1; omega
  · cases h

theorem takeN_at {l r : List AV} {off n : Nat} (h : takeN l off n = some r) {k : Nat} {a : AV} (hk : r[k]? = some a) : l[off + k]? = some a := by
  obtain ⟨rfl, _, _⟩ := takeN_some h
  rw [List.getElem?_take] at hk
  split at hk
  · rw [List.getElem?_drop] at hk; exact hk
  · cases hk

theorem CellsR.take {q : Place} {c : List AV} {et : TypeId} {rw opn : Bool} {cs : Array Value} {elem : TypeId} {fr : Nat × Nat} (r : CellsR P η q c et rw opn cs elem fr)
    {off n : Nat} {l : List AV} (h : takeN c off n = some l) : q.ba + off + n ≤ cs.size ∨ n = 0 := by
  obtain ⟨_, _, h1⟩ := takeN_some h
  have := r.fits; have := r.le
  omega

theorem CellsR.takeVRs {q : Place} {c : List AV} {et : TypeId} {rw opn : Bool} {cs : Array Value} {elem : TypeId} {fr : Nat × Nat} (r : CellsR P η q c et rw opn cs elem fr)
    {off n : Nat} {l : List AV} (h : takeN c off n = some l) : VRs η l ((cs.toList.drop (q.ba + off)).take n) := by
  obtain ⟨hl, hlen, h1⟩ := takeN_some h
  have h2 := r.fits; have h3 := r.le
  refine VRs.of ?_ fun k a hk => ?_
  · simp; omega
  · have h4 := takeN_at h hk
    obtain ⟨x, hx, hv⟩ := r.cell _ _ h4
    refine ⟨x, ?_, hv⟩
    have hkn : k < n := by have := (List.getElem?_eq_some_iff.1 hk).1; omega
    rw [List.getElem?_take, if_pos hkn, List.getElem?_drop]
    rw [← Nat.add_assoc] at hx
    simpa using hx

theorem run_loadCells' {bl off n : Nat} {cs : Array Value} {elem : TypeId} {fr : Nat × Nat} (h : w.heap[bl]? = some (.cells cs elem fr)) (hle : off + n ≤ cs.size ∨ n = 0) :
    (loadCells ⟨bl, off, none⟩ n).run P w = .ok ⟨(cs.toList.drop off).take n⟩ w := by
  rcases hle with h1 | rfl
  · exact run_loadCells h h1
  · simp [loadCells, loadCellsFrom]

/-- A load. -/
theorem load_ok (h : SR P η σ w) {t : TypeId} {a v : AV} {x : Value} (ha : aLoad P t σ a = some v) (hx : VR η a x) :
    ∃ y, (Instr.loadAt t x).run P w = .ok y w ∧ VR η v y := by
  unfold aLoad at ha
  split at ha
  · next id off =>
    split at ha
    · next c et rw opn hg =>
      obtain ⟨q, hq, cs, elem, fr, hb, r⟩ := h.obj _ _ hg rfl
      simp only [VR] at hx
      obtain ⟨q', hq', rfl⟩ := hx
      rw [hq] at hq'; cases hq'
      split at ha
      · next hagg =>
        split at ha
        · next n hn =>
          simp only [Option.map_eq_some_iff] at ha
          obtain ⟨l, hl, rfl⟩ := ha
          refine ⟨.agg ⟨(cs.toList.drop (q.ba + off)).take n⟩, ?_, ?_⟩
          · simp only [Instr.loadAt, Instr.sureAddr, Sem.run_bind, Sem.run_pure, Result.andThen_ok, loadVar, run_isAgg hagg, if_true, run_size hn, Sem.run_ite]
            rw [run_loadCells' hb (r.take hl)]; rfl
          · simp only [VR]; exact ⟨_, rfl, r.takeVRs hl⟩
        · cases ha
      · next hagg =>
        obtain ⟨x, hx, hv⟩ := r.cell _ _ ha
        refine ⟨x, ?_, hv⟩
        simp only [Instr.loadAt, Instr.sureAddr, Sem.run_bind, Sem.run_pure, Result.andThen_ok, loadVar, run_isAgg hagg, Sem.run_ite]
        exact run_load1 hb hx
      · cases ha
    · cases ha
  · next e off =>
    simp only [VR] at hx
    obtain ⟨bl, base, cs, elem, fr, x, h1, h2, rfl, h3, h4⟩ := hx
    have hb := h.roAt _ _ h1
    have hcv := cells_VRs h2
    have hcl := cells_length h2
    split at ha
    · next hagg =>
      split at ha
      · next n hn =>
        simp only [Option.map_eq_some_iff] at ha
        obtain ⟨l, hl, rfl⟩ := ha
        obtain ⟨hl1, hl2, hl3⟩ := takeN_some hl
        have hfit : base + off + n ≤ cs.size ∨ n = 0 := by omega
        refine ⟨.agg ⟨(cs.toList.drop (base + off)).take n⟩, ?_, ?_⟩
        · simp only [Instr.loadAt, Instr.sureAddr, Sem.run_bind, Sem.run_pure, Result.andThen_ok, loadVar, run_isAgg hagg, if_true, run_size hn, Sem.run_ite]
          rw [run_loadCells' hb hfit]; rfl
        · simp only [VR]
          refine ⟨_, rfl, ?_⟩
          have heq : (cs.toList.drop (base + off)).take n = (x.cells.toList.drop off).take n := by
            apply List.ext_getElem?
            intro k
            rw [List.getElem?_take, List.getElem?_take]
            split
            · next hk =>
              rw [List.getElem?_drop, List.getElem?_drop]
              have hlt : off + k < x.cells.toList.length := by simp; omega
              have := h4 (off + k) _ (List.getElem?_eq_getElem hlt)
              rw [List.getElem?_eq_getElem hlt, Array.getElem?_toList, Nat.add_assoc]
              exact this
            · rfl
          rw [heq, hl1]
          exact (hcv.drop off).take n
      · cases ha
    · next hagg =>
      obtain ⟨y, hy, hv⟩ := hcv.at ha
      refine ⟨y, ?_, hv⟩
      simp only [Instr.loadAt, Instr.sureAddr, Sem.run_bind, Sem.run_pure, Result.andThen_ok, loadVar, run_isAgg hagg, Sem.run_ite]
      exact run_load1 hb (h4 off y hy)
    · cases ha
  · cases ha

theorem setRange_some {l l' vs : List AV} {off : Nat} (h : setRange l off vs = some l') : off + vs.length ≤ l.length ∧ l'.length = l.length ∧
    ∀ (k : Nat), l'[k]? = if off ≤ k ∧ k < off + vs.length then vs[k - off]? else l[k]? := by
  unfold setRange at h
  split at h
  · next h1 =>
    cases h
    refine ⟨h1, by simp; omega, fun k => ?_⟩
    by_cases h2 : k < off
    · rw [if_neg (by omega), List.append_assoc, List.getElem?_append_left (by simp; omega), List.getElem?_take, if_pos h2]
    · by_cases h3 : k < off + vs.length
      · rw [if_pos ⟨by omega, h3⟩, List.getElem?_append_left (by simp; omega), List.getElem?_append_right (by simp; omega)]
        simp; congr 1; omega
      · rw [if_neg (by omega), List.getElem?_append_right (by simp; omega), List.getElem?_drop]
        congr 1; simp; omega
  · cases h

/-- A write of cells into a block of our own. -/
theorem write_ok (h : SR P η σ w) {id off : Nat} {c c' : List AV} {et : TypeId} {opn : Bool} {vs : List AV} {xs : List Value} {q : Place} (hg : σ.get id = some (.cells c et true opn)) (hl : σ.lock ≤ id)
    (hq : η id = some q) (hs : setRange c off vs = some c') (hv : VRs η vs xs) (hone : vs.all AV.isAddrOrScalar = true) :
    ∃ w', (storeCells ⟨q.bl, q.ba + off, none⟩ xs).run P w = .ok () w' ∧ St P η σ w η (σ.put id (.cells c' et true opn)) w' := by
  obtain ⟨q', hq', cs, elem, fr, hb, r⟩ := h.obj _ _ hg rfl
  rw [hq] at hq'; cases hq'
  obtain ⟨h1, h2, h3⟩ := setRange_some hs
  have hlen := hv.length
  have hf := r.fits; have hle := r.le
  have hxs : ∀ x ∈ xs, oneC x = true := by
    intro x hx
    obtain ⟨k, hk⟩ := List.mem_iff_getElem?.1 hx
    have hlt : k < vs.length := by have := (List.getElem?_eq_some_iff.1 hk).1; omega
    obtain ⟨y, hy, hvy⟩ := hv.at (List.getElem?_eq_getElem hlt)
    rw [hk] at hy; cases hy
    exact oneC_of hvy (List.all_eq_true.1 hone _ (List.getElem_mem hlt))
  have hrun := run_storeCells (P := P) xs w q.bl (q.ba + off) 0 cs elem fr hb (by omega) hxs (fun k a b => by
    have := r.free rfl (k - q.ba) (by omega)
    rw [Nat.add_sub_cancel' (by omega)] at this; exact this)
  refine ⟨_, hrun, ?_⟩
  refine St.write h hg rfl hl hq setBlk_size (fun k hk => setBlk_ne hk) rfl rfl rfl ?_
  refine ⟨_, elem, fr, setBlk_at hb, ?_⟩
  refine { fits := by rw [setFrom_size]; exact hf, le := by omega, shut := fun e => by rw [h2]; exact r.shut e, cell := ?_, free := fun e => r.free e, whole := fun e => by rw [setFrom_size]; exact r.whole e, room := r.room }
  intro k a hk
  rw [h3] at hk
  rw [setFrom_get _ _ _ _ (by omega)]
  split at hk
  · next h4 =>
    rw [if_pos (by omega)]
    obtain ⟨x, hx, hvx⟩ := hv.at hk
    refine ⟨x, ?_, hvx⟩
    rw [← hx]; congr 1; omega
  · next h4 =>
    rw [if_neg (by omega)]
    exact r.cell k a hk

/-- A store. -/
theorem store_ok (h : SR P η σ w) {t : TypeId} {a v : AV} {x y : Value} (hs : aStore P t σ a v = some σ') (hx : VR η a x) (hy : VR η v y) :
    ∃ w', (Instr.storeAt t x y).run P w = .ok () w' ∧ St P η σ w η σ' w' := by
  unfold aStore at hs
  split at hs
  · next id off =>
    split at hs
    · next c et opn hg =>
      split at hs
      · next hc =>
        obtain ⟨hl, hsz, hone⟩ := hc
        simp only [Option.map_eq_some_iff] at hs
        obtain ⟨c', hr, rfl⟩ := hs
        simp only [VR] at hx
        obtain ⟨q, hq, rfl⟩ := hx
        have hcells := cells_VRs hy
        obtain ⟨w', hrun, hst⟩ := write_ok h hg hl hq hr hcells hone
        refine ⟨w', ?_, hst⟩
        have hlen := hcells.length
        simp only [Instr.storeAt, Instr.sureAddr, Sem.run_bind, Sem.run_pure, Result.andThen_ok, storeVar, run_size hsz, Sem.run_ite]
        rw [if_neg (by simp at hlen ⊢; omega)]
        simpa using hrun
      · cases hs
    · cases hs
  · cases hs

end
end Go.Abs

/-! # AbsOps2 -/
namespace Go.Abs
noncomputable section
variable [TabsOf]
set_option linter.unusedSectionVars false
set_option linter.unusedVariables false
set_option linter.unusedSimpArgs false
variable {P : Program} {η : Env} {σ σ' : ASt} {w : World}

theorem aInt_VR {a : AV} {n : Int} {x : Value} (h : aInt a = some n) (hx : VR η a x) : ∃ k, x = .int k n := by
  cases a <;> simp [aInt] at h
  subst h; simp only [VR] at hx; exact ⟨_, hx⟩

theorem run_asInt {k : IntKind} {n : Int} : (asIntOf (.int k n)).run P w = .ok (k, n) w := rfl

theorem scalar_VR {a : AV} {v : Value} {x : Value} (h : scalarOf a = some v) (hx : VR η a x) : x = v := toVal_unique 4 a v x h hx

theorem part_ok {t : TypeId} {cs : List AV} {vs : List Value} {off : Nat} {v : AV} (h : aPart P t cs off = some v) (hv : VRs η cs vs) :
    ∃ y, (part t ⟨vs⟩ off).run P w = .ok y w ∧ VR η v y := by
  unfold aPart at h
  split at h
  · next hagg =>
    split at h
    · next n hn =>
      simp only [Option.map_eq_some_iff] at h
      obtain ⟨l, hl, rfl⟩ := h
      refine ⟨.agg ((⟨vs⟩ : Array Value).extract off (off + n)), ?_, ?_⟩
      · simp [part, run_isAgg hagg, run_size hn]
      · simp only [VR]
        obtain ⟨rfl, _, _⟩ := takeN_some hl
        refine ⟨(vs.drop off).take n, ?_, (hv.drop off).take n⟩
        simp
    · cases h
  · next hagg =>
    obtain ⟨x, hx, hvx⟩ := hv.at h
    refine ⟨x, ?_, hvx⟩
    simp [part, run_isAgg hagg, hx]
  · cases h

theorem field_ok {t : TypeId} {a v : AV} {x : Value} {f : Nat} (h : aField P t a f = some v) (hx : VR η a x) :
    ∃ y, (Instr.field t x f).run P w = .ok y w ∧ VR η v y := by
  unfold aField at h
  split at h
  · next fields cs hu =>
    split at h
    · next fd hf =>
      simp only [VR] at hx
      obtain ⟨vs, rfl, hv⟩ := hx
      obtain ⟨y, hy, hvy⟩ := part_ok (w := w) h hv
      exact ⟨y, by simp [Instr.field, run_under hu, hf, asAgg, hy], hvy⟩
    · cases h
  · cases h

theorem fieldAddr_ok {t : TypeId} {a v : AV} {x : Value} {f : Nat} (h : aFieldAddr P t a f = some v) (hx : VR η a x) :
    ∃ y, (Instr.fieldAt t x f).run P w = .ok y w ∧ VR η v y := by
  unfold aFieldAddr at h
  split at h
  · next fields id off hu =>
    split at h
    · next fd hf =>
      split at h
      · next n hn =>
        split at h
        · cases h
        · next h0 =>
          cases h
          simp only [VR] at hx
          obtain ⟨q, hq, rfl⟩ := hx
          refine ⟨.pointer (some ⟨q.bl, q.ba + off + fd.offset, none⟩), ?_, ?_⟩
          · simp [Instr.fieldAt, run_under hu, hf, Instr.sureAddr, fieldPlace, run_size hn, h0, add_none]
          · simp only [VR]; exact ⟨q, hq, by rw [Nat.add_assoc]⟩
      · cases h
    · cases h
  · next fields b off hu =>
    split at h
    · next fd hf =>
      split at h
      · next n hn =>
        split at h
        · cases h
        · next h0 =>
          cases h
          simp only [VR] at hx
          obtain ⟨bl, base, cs, elem, fr, x, h1, h2, rfl, h3⟩ := hx
          refine ⟨.pointer (some ⟨bl, base + off + fd.offset, none⟩), ?_, ?_⟩
          · simp [Instr.fieldAt, run_under hu, hf, Instr.sureAddr, fieldPlace, run_size hn, h0, add_none]
          · simp only [VR]; exact ⟨bl, base, cs, elem, fr, x, h1, h2, by rw [Nat.add_assoc], h3⟩
      · cases h
    · cases h
  · cases h

theorem indexAddr_ok {t : TypeId} {a i v : AV} {x y : Value} (h : aIndexAddr P t a i = some v) (hx : VR η a x) (hy : VR η i y) :
    ∃ z, (Instr.indexAt t x y).run P w = .ok z w ∧ VR η v z := by
  unfold aIndexAddr at h
  split at h
  · next e id off len cap k hu hk =>
    obtain ⟨kd, rfl⟩ := aInt_VR hk hy
    split at h
    · next size hn =>
      split at h
      · next hr =>
        cases h
        simp only [VR] at hx
        obtain ⟨q, hq, hle, rfl⟩ := hx
        refine ⟨.pointer (some ⟨q.bl, q.ba + off + k.toNat * size, none⟩), ?_, ?_⟩
        · simp [Instr.indexAt, asIntOf, run_under hu, run_size hn, hr, add_none]
        · simp only [VR]; exact ⟨q, hq, by rw [Nat.add_assoc]⟩
      · cases h
    · cases h
  · next len e id off k hu hk =>
    obtain ⟨kd, rfl⟩ := aInt_VR hk hy
    split at h
    · next size hn =>
      split at h
      · next hr =>
        cases h
        simp only [VR] at hx
        obtain ⟨q, hq, rfl⟩ := hx
        refine ⟨.pointer (some ⟨q.bl, q.ba + off + k.toNat * size, none⟩), ?_, ?_⟩
        · simp [Instr.indexAt, asIntOf, run_under hu, run_size hn, hr, add_none, Instr.sureAddr]
        · simp only [VR]; exact ⟨q, hq, by rw [Nat.add_assoc]⟩
      · cases h
    · cases h
  · next e l k hu hk =>
    obtain ⟨kd, rfl⟩ := aInt_VR hk hy
    split at h
    · next size hn =>
      split at h
      · next h0 =>
        split at h
        · next b hb =>
          split at h
          · next hsz =>
            cases h
            obtain ⟨bl, off, c, cs, elem, fr, x, rfl, hc, h1, h2, h3, h4⟩ := ro_elem hx hb hsz
            have hlt := (List.getElem?_eq_some_iff.1 hb).1
            have hr : 0 ≤ k ∧ k < (l.length : Int) := ⟨h0, by omega⟩
            refine ⟨.pointer (some ⟨bl, off + k.toNat * size, none⟩), ?_, ?_⟩
            · simp [Instr.indexAt, asIntOf, run_under hu, run_size hn, hr, add_none]
            · simp only [VR]; exact ⟨bl, off + k.toNat * size, cs, elem, fr, x, h1, h2, rfl, h3, h4⟩
          · cases h
        · cases h
      · cases h
    · cases h
  · next len e b off k hu hk =>
    obtain ⟨kd, rfl⟩ := aInt_VR hk hy
    split at h
    · next size hn =>
      split at h
      · next hr =>
        cases h
        simp only [VR] at hx
        obtain ⟨bl, base, cs, elem, fr, x, h1, h2, rfl, h3⟩ := hx
        refine ⟨.pointer (some ⟨bl, base + off + k.toNat * size, none⟩), ?_, ?_⟩
        · simp [Instr.indexAt, asIntOf, run_under hu, run_size hn, hr, add_none, Instr.sureAddr]
        · simp only [VR]; exact ⟨bl, base, cs, elem, fr, x, h1, h2, by rw [Nat.add_assoc], h3⟩
      · cases h
    · cases h
  · cases h

theorem getBytes (s : List UInt8) (k : Nat) : ((⟨⟨s⟩⟩ : ByteArray)[k]?) = s[k]? := by
  rw [getElem?_def, getElem?_def]
  rfl

theorem index_ok {t : TypeId} {a i v : AV} {x y : Value} (h : aIndex P t a i = some v) (hx : VR η a x) (hy : VR η i y) :
    ∃ z, (Instr.index t x y).run P w = .ok z w ∧ VR η v z := by
  unfold aIndex at h
  split at h
  · next s k hu hk =>
    obtain ⟨kd, rfl⟩ := aInt_VR hk hy
    split at h
    · next h0 =>
      split at h
      · next c hc =>
        cases h
        simp only [VR] at hx; subst hx
        refine ⟨.int .u8 c.toNat, ?_, by simp [VR]⟩
        simp [Instr.index, asIntOf, run_under hu, h0, getBytes, hc]
      · cases h
    · cases h
  · next len e cs k hu hk =>
    obtain ⟨kd, rfl⟩ := aInt_VR hk hy
    split at h
    · next size hn =>
      split at h
      · next hr =>
        simp only [VR] at hx
        obtain ⟨vs, rfl, hv⟩ := hx
        obtain ⟨z, hz, hvz⟩ := part_ok (w := w) h hv
        exact ⟨z, by simp [Instr.index, asIntOf, run_under hu, run_size hn, hr, hz], hvz⟩
      · cases h
    · cases h
  · cases h

def OptVR (η : Env) : Option AV → Option Value → Prop
  | none, none => True
  | some a, some x => VR η a x
  | _, _ => False

/-- The two bounds of a slice expression. -/
theorem bounds_ok {sl : Bool} {len cap : Nat} {room : Nat → Bool} {lo hi : Option AV} {lo' hi' : Option Value} {l h : Nat} (hb : aBounds len room lo hi = some (l, h)) (hroom : ∀ k, room k = true → k ≤ cap) (hlc : len ≤ cap)
    (hlo : OptVR η lo lo') (hhi : OptVR η hi hi') :
    (Instr.sliceBounds sl len cap lo' hi' none).run P w = .ok (l, h, cap) w ∧ l ≤ h ∧ h ≤ cap := by
  unfold aBounds at hb
  split at hb
  · cases hb
  next hh e =>
  split at hb
  · cases hb
  next ll e2 =>
  simp only [Option.some.injEq, Prod.mk.injEq] at hb
  obtain ⟨rfl, rfl⟩ := hb
  have hH : ∀ c, (match hi' with | some v => Instr.sliceBound v cap c | none => pure len).run P w = .ok hh w ∧ hh ≤ cap := by
    intro c
    cases hi with
    | none => cases hi' with
      | none => simp [aHigh] at e; subst e; exact ⟨rfl, hlc⟩
      | some _ => exact hhi.elim
    | some a => cases hi' with
      | none => exact hhi.elim
      | some x =>
        simp only [aHigh] at e; simp only [OptVR] at hhi
        split at e
        · next n hn =>
          obtain ⟨kd, rfl⟩ := aInt_VR hn hhi
          split at e
          · next h1 =>
            cases e
            have := hroom _ h1.2
            refine ⟨?_, this⟩
            simp [Instr.sliceBound, asIntOf, h1.1]
            intro hbad; omega
          · cases e
        · cases e
  have hL : ∀ c, (match lo' with | some v => Instr.sliceBound v hh c | none => pure 0).run P w = .ok ll w ∧ ll ≤ hh := by
    intro c
    cases lo with
    | none => cases lo' with
      | none => simp [aLow] at e2; subst e2; exact ⟨rfl, Nat.zero_le _⟩
      | some _ => exact hlo.elim
    | some a => cases lo' with
      | none => exact hlo.elim
      | some x =>
        simp only [aLow] at e2; simp only [OptVR] at hlo
        split at e2
        · next n hn =>
          obtain ⟨kd, rfl⟩ := aInt_VR hn hlo
          split at e2
          · next h1 =>
            cases e2
            refine ⟨?_, by omega⟩
            simp [Instr.sliceBound, asIntOf, h1.1]
            intro hbad; omega
          · cases e2
        · cases e2
  refine ⟨?_, (hL .index).2, (hH .index).2⟩
  unfold Instr.sliceBounds
  have h1 := hH (if sl then .sliceAcap else .sliceAlen)
  have h2 := hL (if (none : Option Value).isSome then .slice3C else .sliceB)
  cases hi' <;> simp only [Sem.run_bind, Sem.run_pure, Result.andThen_ok] at h1 h2 ⊢ <;> cases lo' <;> simp only [Sem.run_bind, Sem.run_pure, Result.andThen_ok] at h1 h2 ⊢ <;> simp_all

end
end Go.Abs

/-! # AbsOps3 -/
namespace Go.Abs
noncomputable section
variable [TabsOf]
set_option linter.unusedSectionVars false
set_option linter.unusedVariables false
set_option linter.unusedSimpArgs false
variable {P : Program} {η : Env} {σ σ' : ASt} {w : World}

theorem strSize (s : List UInt8) : (⟨⟨s⟩⟩ : ByteArray).size = s.length := rfl

theorem strExtract (s : List UInt8) (l h : Nat) : (⟨⟨s⟩⟩ : ByteArray).extract l h = ⟨⟨(s.take h).drop l⟩⟩ := by
  apply ByteArray.ext
  rw [ByteArray.data_extract]
  apply Array.ext'
  simp [List.drop_take, List.extract_eq_take_drop]

theorem ro_nil {ad : Addr} {c : Nat} (hs : ad.spot = none := by rfl) : VR η (.ro []) (.slice (some ad) 0 c) := by
  simp only [VR]
  obtain ⟨bl, off, sp⟩ := ad
  simp only at hs; subst hs
  right
  exact ⟨bl, off, c, [], 0, rfl, Nat.zero_le _, by simp [VRs], by simp, fun h => absurd rfl h⟩

theorem aBounds_le {len : Nat} {room : Nat → Bool} {lo hi : Option AV} {l h : Nat} (hb : aBounds len room lo hi = some (l, h)) (hr : ∀ k, room k = true → k ≤ len) : h ≤ len := by
  unfold aBounds at hb
  split at hb
  · cases hb
  · next e =>
    split at hb
    · cases hb
    · cases hb
      cases hi with
      | none => simp [aHigh] at e; omega
      | some v =>
        simp only [aHigh] at e
        split at e
        · split at e
          · next h1 => cases e; exact hr _ h1.2
          · cases e
        · cases e

theorem slice_ok (h : SR P η σ w) {t : TypeId} {a v : AV} {x : Value} {lo hi : Option AV} {lo' hi' : Option Value} (hs : aSlice P t σ a lo hi = some v) (hx : VR η a x) (hlo : OptVR η lo lo') (hhi : OptVR η hi hi') :
    ∃ y, (Instr.sliceAt t x lo' hi' none).run P w = .ok y w ∧ VR η v y := by
  unfold aSlice at hs
  split at hs
  · next s hu =>
    simp only [Option.map_eq_some_iff, Prod.exists] at hs
    obtain ⟨l, hh, hb, rfl⟩ := hs
    simp only [VR] at hx; subst hx
    have hB := bounds_ok (P := P) (w := w) (sl := false) (cap := s.length) hb (fun k hk => by simpa using hk) (Nat.le_refl _) hlo hhi
    refine ⟨.string ⟨⟨(s.take hh).drop l⟩⟩, ?_, by simp [VR]⟩
    simp only [Instr.sliceAt, Instr.slice, run_under hu, Sem.run_bind, Result.andThen_ok, strSize, Option.isSome_none, Bool.false_eq_true, if_false, hB.1, Sem.run_pure, strExtract, Sem.run_ite]
  · next e id off len cap hu =>
    simp only [VR] at hx
    obtain ⟨q, hq, hle, rfl⟩ := hx
    split at hs
    · next size c hn =>
      simp only [Option.bind_eq_some_iff, Prod.exists] at hs
      obtain ⟨l, hh, hb, hs⟩ := hs
      simp only [Option.getD_some] at hle ⊢
      have hB := bounds_ok (P := P) (w := w) (sl := true) (cap := c) hb (fun k hk => by simpa using hk) hle hlo hhi
      split at hs
      · next e1 =>
        cases hs
        subst e1
        refine ⟨.slice (some ⟨q.bl, q.ba + off, none⟩) (hh - c) 0, ?_, ?_⟩
        · simp only [Instr.sliceAt, Instr.slice, run_under hu, Sem.run_bind, Result.andThen_ok, hB.1, run_size hn, Sem.run_pure, if_true, Nat.sub_self]
        · simp only [VR]; exact ⟨q, hq, by simp; omega, rfl⟩
      · next e1 =>
        cases hs
        refine ⟨.slice (some ⟨q.bl, q.ba + off + l * size, none⟩) (hh - l) (c - l), ?_, ?_⟩
        · simp only [Instr.sliceAt, Instr.slice, run_under hu, Sem.run_bind, Result.andThen_ok, hB.1, run_size hn, Sem.run_pure, if_neg e1, Option.map_some, add_none]
        · simp only [VR]; exact ⟨q, hq, by simp; omega, by rw [Nat.add_assoc]; rfl⟩
    · next size hn =>
      split at hs
      · next c et rw hg =>
        split at hs
        · next het =>
          simp only [Option.bind_eq_some_iff, Prod.exists] at hs
          obtain ⟨l, hh, hb, hs⟩ := hs
          obtain ⟨q', hq', cs, elem, fr, hbk, r⟩ := h.obj _ _ hg rfl
          rw [hq] at hq'; cases hq'
          obtain ⟨_, hes, hsz⟩ := r.room rfl
          rw [het, hn] at hsz
          cases hsz
          simp only [Option.getD_none] at hle ⊢
          have hB := bounds_ok (P := P) (w := w) (sl := true) (cap := (q.sz - off) / q.es) hb (fun k hk => by simp at hk; omega) hle hlo hhi
          have hhl : hh ≤ len := by
            unfold aBounds at hb
            split at hb
            · cases hb
            · next e =>
              split at hb
              · cases hb
              · cases hb
                cases hi with
                | none => simp [aHigh] at e; omega
                | some v =>
                  simp only [aHigh] at e
                  split at e
                  · split at e
                    · next h1 => cases e; simpa using h1.2
                    · cases e
                  · cases e
          have hsub : (q.sz - off) / q.es - l = (q.sz - (off + l * q.es)) / q.es := by
            rw [← Nat.sub_sub, Nat.mul_comm l, Nat.sub_mul_div]
          split at hs
          · next e1 =>
            cases hs
            refine ⟨.slice (some ⟨q.bl, q.ba + off + l * q.es, none⟩) (hh - l) ((q.sz - off) / q.es - l), ?_, ?_⟩
            · simp only [Instr.sliceAt, Instr.slice, run_under hu, Sem.run_bind, Result.andThen_ok, hB.1, run_size hn, Sem.run_pure, Option.map_some, add_none]
              rw [if_neg (by omega)]
            · simp only [VR]
              refine ⟨q, hq, ?_, ?_⟩
              · simp only [Option.getD_none]; rw [← hsub]; omega
              · simp only [Option.getD_none]; rw [← hsub, Nat.add_assoc]
          · split at hs
            · next e1 e2 =>
              cases hs
              subst e2
              refine ⟨.slice (some ⟨q.bl, q.ba + off, none⟩) (hh - 0) ((q.sz - off) / q.es - 0), ?_, ?_⟩
              · simp only [Instr.sliceAt, Instr.slice, run_under hu, Sem.run_bind, Result.andThen_ok, hB.1, run_size hn, Sem.run_pure, Option.map_some, add_none]
                split <;> simp
              · simp only [VR]; exact ⟨q, hq, by simp; omega, by simp⟩
            · split at hs
              · next e1 e2 e3 =>
                cases hs
                subst e3
                simp only [Instr.sliceAt, Instr.slice, run_under hu, Sem.run_bind, Result.andThen_ok, hB.1, run_size hn, Sem.run_pure, Option.map_some, add_none, Nat.sub_self]
                by_cases e4 : (q.sz - off) / q.es = hh
                · rw [if_pos e4]; exact ⟨_, rfl, ro_nil⟩
                · rw [if_neg e4]; exact ⟨_, rfl, ro_nil⟩
              · cases hs
        · cases hs
      · cases hs
    · cases hs
  · next e hu =>
    split at hs
    · next n hn =>
      simp only [Option.map_eq_some_iff, Prod.exists] at hs
      obtain ⟨l, hh, hb, rfl⟩ := hs
      simp only [VR] at hx; subst hx
      have hB := bounds_ok (P := P) (w := w) (sl := true) (cap := 0) hb (fun k hk => by simpa using hk) (Nat.le_refl _) hlo hhi
      have hl0 : l = 0 := by omega
      have hh0 : hh = 0 := by omega
      subst hl0; subst hh0
      refine ⟨.slice none 0 0, ?_, by simp [VR]⟩
      simp only [Instr.sliceAt, Instr.slice, run_under hu, Sem.run_bind, Result.andThen_ok, hB.1, run_size hn, Sem.run_pure, if_true, Nat.sub_self]
    · cases hs
  · next e es hu =>
    split at hs
    · next size hn =>
      simp only [Option.bind_eq_some_iff, Prod.exists] at hs
      obtain ⟨l, hh, hb, hs⟩ := hs
      have hx0 := hx
      simp only [VR] at hx
      rcases hx with ⟨rfl, pa, rfl⟩ | ⟨bl, off, c, xs, sz, rfl, hc, h1, h2, h3⟩
      · have hB := bounds_ok (P := P) (w := w) (sl := true) (cap := 0) hb (fun k hk => by simpa using hk) (Nat.le_refl _) hlo hhi
        have hl0 : l = 0 := by omega
        have hh0 : hh = 0 := by omega
        subst hl0; subst hh0
        simp [aRoSlice] at hs
        subst hs
        refine ⟨.slice pa 0 0, ?_, by simp [VR]⟩
        have hB1 := hB.1
        rw [List.length_nil] at hB1
        simp only [Instr.sliceAt, Instr.slice, run_under hu, Sem.run_bind, Result.andThen_ok, hB1, run_size hn, Sem.run_pure, if_true, Nat.sub_self]
      have hB := bounds_ok (P := P) (w := w) (sl := true) (cap := c) hb (fun k hk => by simp at hk; omega) hc hlo hhi
      have hhl := aBounds_le hb (fun k hk => by simpa using hk)
      simp only [Instr.sliceAt, Instr.slice, run_under hu, Sem.run_bind, Result.andThen_ok, hB.1, run_size hn, Sem.run_pure, Option.map_some, add_none]
      unfold aRoSlice at hs
      split at hs
      · next e1 =>
        cases hs; subst e1
        simp only [Nat.sub_self]
        by_cases e4 : c = hh
        · rw [if_pos e4]; exact ⟨_, rfl, ro_nil⟩
        · rw [if_neg e4]; exact ⟨_, rfl, ro_nil⟩
      · next e1 =>
        split at hs
        · next a ha =>
          split at hs
          · next hsz =>
            cases hs
            obtain ⟨x, hxx, hvx⟩ := h1.at ha
            have hsx := h2 x (List.mem_of_getElem? hxx)
            have : sz = size := by rw [← hsx, ← cells_length hvx, hsz]
            subst this
            obtain ⟨cs, elem, fr, h4, h5, h6⟩ := h3 (by intro e; subst e; simp at ha)
            rw [if_neg (by omega)]
            refine ⟨_, rfl, ?_⟩
            have hlen := h1.length
            simp only [VR]
            right
            refine ⟨bl, off + l * sz, c - l, (xs.take hh).drop l, sz, by congr 1; simp; omega, by simp; omega, (h1.take hh).drop l, fun y hy => h2 y (List.mem_of_mem_take (List.mem_of_mem_drop hy)), fun _ => ⟨cs, elem, fr, h4, ?_, ?_⟩⟩
            · rw [cellsL_length (fun y hy => h2 y (List.mem_of_mem_take (List.mem_of_mem_drop hy)))]
              have hL := cellsL_length h2
              have hm : ((xs.take hh).drop l).length = hh - l := by simp; omega
              rw [hm]
              have h7 : l * sz + (hh - l) * sz = hh * sz := by rw [← Nat.add_mul]; congr 1; omega
              have h8 : hh * sz ≤ xs.length * sz := Nat.mul_le_mul_right _ (by omega)
              omega
            · intro k y hk
              rw [← cellsL_drop (fun y hy => h2 y (List.mem_of_mem_take hy)), ← cellsL_take h2, List.getElem?_drop, List.getElem?_take] at hk
              split at hk
              · have := h6 _ _ hk; rw [← Nat.add_assoc] at this; exact this
              · cases hk
          · cases hs
        · cases hs
    · cases hs
  · next n e id off hu =>
    simp only [VR] at hx
    obtain ⟨q, hq, rfl⟩ := hx
    split at hs
    · next size hn =>
      simp only [Option.map_eq_some_iff, Prod.exists] at hs
      obtain ⟨l, hh, hb, rfl⟩ := hs
      have hB := bounds_ok (P := P) (w := w) (sl := false) (cap := n) hb (fun k hk => by simpa using hk) (Nat.le_refl _) hlo hhi
      have hhl := aBounds_le hb (fun k hk => by simpa using hk)
      simp only [Instr.sliceAt, Instr.sureAddr, run_under hu, Sem.run_bind, Result.andThen_ok, hB.1, run_size hn, Sem.run_pure]
      by_cases e1 : n = l
      · subst e1
        rw [if_pos rfl, if_pos rfl]
        refine ⟨_, rfl, ?_⟩
        simp only [VR]
        exact ⟨q, hq, by simp; omega, by simp⟩
      · rw [if_neg e1, if_neg e1]
        refine ⟨_, rfl, ?_⟩
        simp only [VR, add_none]
        exact ⟨q, hq, by simp; omega, by simp [Nat.add_assoc]⟩
    · cases hs
  · cases hs

end
end Go.Abs

/-! # AbsOps4 -/
namespace Go.Abs
noncomputable section
variable [TabsOf]
set_option linter.unusedSectionVars false
set_option linter.unusedVariables false
set_option linter.unusedSimpArgs false
variable {P : Program} {η : Env} {σ σ' : ASt} {w : World}

theorem len_ok (h : SR P η σ w) {t : TypeId} {ts : Array TypeId} {ty : TypeId} {a v : AV} {x : Value} (ht : ts[0]? = some t) (hs : aLen P σ t a = some v) (hx : VR η a x) :
    ∃ y, (Builtin.len_ ts ty #[x]).run P w = .ok y w ∧ VR η v y := by
  unfold aLen at hs
  split at hs
  · next s hu => cases hs; simp only [VR] at hx; subst hx; exact ⟨.int .i64 s.length, by simp [Builtin.len_, ht, run_under hu, goInt, strSize], by simp [VR]⟩
  · next e hu => cases hs; simp only [VR] at hx; subst hx; exact ⟨.int .i64 0, by simp [Builtin.len_, ht, run_under hu, goInt], by simp [VR]⟩
  · next e id off n cap hu => cases hs; simp only [VR] at hx; obtain ⟨q, hq, _, rfl⟩ := hx; exact ⟨.int .i64 n, by simp [Builtin.len_, ht, run_under hu, goInt], by simp [VR]⟩
  · next e l hu => cases hs; simp only [VR] at hx; rcases hx with ⟨rfl, _, rfl⟩ | ⟨bl, off, c, xs, sz, rfl, _⟩; exact ⟨.int .i64 0, by simp [Builtin.len_, ht, run_under hu, goInt], by simp [VR]⟩; exact ⟨.int .i64 l.length, by simp [Builtin.len_, ht, run_under hu, goInt], by simp [VR]⟩
  · next e1 e2 hu => cases hs; simp only [VR] at hx; subst hx; exact ⟨.int .i64 0, by simp [Builtin.len_, ht, run_under hu, goInt], by simp [VR]⟩
  · next e1 e2 id hu =>
    split at hs
    · next es hg =>
      cases hs
      simp only [VR] at hx; obtain ⟨q, hq, rfl⟩ := hx
      obtain ⟨q', hq', ms, clock, hb, hsz, _⟩ := h.obj _ _ hg rfl
      rw [hq] at hq'; cases hq'
      refine ⟨.int .i64 es.length, ?_, by simp [VR]⟩
      simp [Builtin.len_, ht, run_under hu, goInt, getObj, Sem.run, hb, hsz]
    · cases hs
  · next _ n _ hu => cases hs; exact ⟨.int .i64 n, by cases x <;> simp [Builtin.len_, ht, run_under hu, goInt], by simp [VR]⟩
  · cases hs

theorem under_int {t : TypeId} (h : P.underlying t = none) : True := trivial

theorem optMapIff {α β : Type} {f : α → β} {o : Option α} {y : β} : o.map f = some y ↔ ∃ x, o = some x ∧ f x = y := by cases o <;> simp

theorem beqAddr (b o i j : Nat) : ((⟨b, o + i, none⟩ : Addr) == ⟨b, o + j, none⟩) = (i == j) := by
  rw [Bool.eq_iff_iff]; simp

section
variable {t e : TypeId}
theorem eq_ptr_same {n : Nat} (hu : P.underlying t = some (.pointer e)) (hn : sizeT P e = some n) (h0 : n ≠ 0) (b o i j : Nat) :
    (Op.equal t (.pointer (some ⟨b, o + i, none⟩)) (.pointer (some ⟨b, o + j, none⟩))).run P w = .ok (i == j) w := by
  have H : ∀ d : Nat, (Op.equalIn (d + 1) t (.pointer (some ⟨b, o + i, none⟩)) (.pointer (some ⟨b, o + j, none⟩))).run P w = .ok (i == j) w := fun d => by
    simp only [Op.equalIn, Sem.run_bind, run_under hu, Result.andThen_ok, run_size hn, if_pos h0, Sem.run_ite]
    simp only [sameAddr, beq_self_eq_true, if_true, Sem.run_pure, beqAddr, Sem.run_bind, Result.andThen_ok]
  exact H 9999
theorem eq_ptr_nil (hu : P.underlying t = some (.pointer e)) (a : Addr) : (Op.equal t (.pointer (some a)) (.pointer none)).run P w = .ok false w := by
  have H : ∀ d : Nat, (Op.equalIn (d + 1) t (.pointer (some a)) (.pointer none)).run P w = .ok false w := fun d => by
    simp only [Op.equalIn, Sem.run_bind, run_under hu, Result.andThen_ok, Sem.run_pure]
  exact H 9999
theorem eq_nil_ptr (hu : P.underlying t = some (.pointer e)) (a : Addr) : (Op.equal t (.pointer none) (.pointer (some a))).run P w = .ok false w := by
  have H : ∀ d : Nat, (Op.equalIn (d + 1) t (.pointer none) (.pointer (some a))).run P w = .ok false w := fun d => by
    simp only [Op.equalIn, Sem.run_bind, run_under hu, Result.andThen_ok, Sem.run_pure, Option.isNone_some]
  exact H 9999
theorem eq_sl_nil (hu : P.underlying t = some (.slice e)) (a : Addr) (l c : Nat) : (Op.equal t (.slice (some a) l c) (.slice none 0 0)).run P w = .ok false w := by
  have H : ∀ d : Nat, (Op.equalIn (d + 1) t (.slice (some a) l c) (.slice none 0 0)).run P w = .ok false w := fun d => by
    simp only [Op.equalIn, Sem.run_bind, run_under hu, Result.andThen_ok, Sem.run_pure]
  exact H 9999
theorem eq_nil_sl (hu : P.underlying t = some (.slice e)) (a : Addr) (l c : Nat) : (Op.equal t (.slice none 0 0) (.slice (some a) l c)).run P w = .ok false w := by
  have H : ∀ d : Nat, (Op.equalIn (d + 1) t (.slice none 0 0) (.slice (some a) l c)).run P w = .ok false w := fun d => by
    simp only [Op.equalIn, Sem.run_bind, run_under hu, Result.andThen_ok, Sem.run_pure, Option.isNone_some]
  exact H 9999
theorem eq_ifc_nil {ms : Array (String × TypeId)} (hu : P.underlying t = some (.interface ms)) (u : TypeId) (x : Value) : (Op.equal t (.iface u x) .nilIface).run P w = .ok false w := by
  have H : ∀ d : Nat, (Op.equalIn (d + 1) t (.iface u x) .nilIface).run P w = .ok false w := fun d => by
    simp only [Op.equalIn, Sem.run_bind, run_under hu, Result.andThen_ok, Sem.run_pure]
  exact H 9999
theorem eq_nil_ifc {ms : Array (String × TypeId)} (hu : P.underlying t = some (.interface ms)) (u : TypeId) (x : Value) : (Op.equal t .nilIface (.iface u x)).run P w = .ok false w := by
  have H : ∀ d : Nat, (Op.equalIn (d + 1) t .nilIface (.iface u x)).run P w = .ok false w := fun d => by
    simp only [Op.equalIn, Sem.run_bind, run_under hu, Result.andThen_ok, Sem.run_pure]
  exact H 9999
theorem eq_map_nil {k : TypeId} (hu : P.underlying t = some (.map k e)) (r : Nat) : (Op.equal t (.map (some r)) (.map none)).run P w = .ok false w := by
  have H : ∀ d : Nat, (Op.equalIn (d + 1) t (.map (some r)) (.map none)).run P w = .ok false w := fun d => by
    simp only [Op.equalIn, Sem.run_bind, run_under hu, Result.andThen_ok, Sem.run_pure]
  exact H 9999
theorem eq_nil_map {k : TypeId} (hu : P.underlying t = some (.map k e)) (r : Nat) : (Op.equal t (.map none) (.map (some r))).run P w = .ok false w := by
  have H : ∀ d : Nat, (Op.equalIn (d + 1) t (.map none) (.map (some r))).run P w = .ok false w := fun d => by
    simp only [Op.equalIn, Sem.run_bind, run_under hu, Result.andThen_ok, Sem.run_pure, Option.isNone_some]
  exact H 9999
end

/-- '==' and '!=' by the model's equality: two values that are no two nil interface values, nor both aggregates. -/
theorem bin_eql {t : TypeId} {x y : Operand} {u u' : Value} {r : Bool} (h : (Op.equal t u u').run P w = .ok r w)
    (hb : binOp .eql t u u' = (do pure (.bool (← Op.equal t u u')))) (hg : (eqGuard .eql t x y u u').run P w = .ok () w) :
    (do eqGuard .eql t x y u u'; binOp .eql t u u' : Sem Value).run P w = .ok (.bool r) w := by
  simp only [Sem.run_bind, hg, Result.andThen_ok, hb, h, Sem.run_pure]
theorem bin_neq {t : TypeId} {x y : Operand} {u u' : Value} {r : Bool} (h : (Op.equal t u u').run P w = .ok r w)
    (hb : binOp .neq t u u' = (do pure (.bool (!(← Op.equal t u u'))))) (hg : (eqGuard .neq t x y u u').run P w = .ok () w) :
    (do eqGuard .neq t x y u u'; binOp .neq t u u' : Sem Value).run P w = .ok (.bool (!r)) w := by
  simp only [Sem.run_bind, hg, Result.andThen_ok, hb, h, Sem.run_pure]

theorem cmpZ_ok {op : BinOp} {t : TypeId} {x y : Operand} {k : IntKind} {a b c d m n : Int} {v : AV} (hs : cmpZ op a b c d = some v) (h1 : a ≤ m) (h2 : m ≤ b) (h3 : c ≤ n) (h4 : n ≤ d) :
    ∃ z, (do eqGuard op t x y (.int k m) (.int k n); binOp op t (.int k m) (.int k n) : Sem Value).run P w = .ok z w ∧ VR η v z := by
  have key : ∀ (op : BinOp) (r : Bool), (eqGuard op t x y (.int k m) (.int k n)).run P w = .ok () w → binOp op t (.int k m) (.int k n) = (if k ≠ k then stuck "BinOp: operands of different kinds" else Op.intCmp op m n) → Op.intCmp op m n = pure (.bool r) →
      (do eqGuard op t x y (.int k m) (.int k n); binOp op t (.int k m) (.int k n) : Sem Value).run P w = .ok (.bool r) w := by
    intro op r hg hb hc
    rw [Sem.run_bind, hg, Result.andThen_ok, hb, if_neg (by simp), hc]
    rfl
  cases op <;> simp only [cmpZ, reduceCtorEq] at hs
  all_goals split at hs
  all_goals try split at hs
  all_goals cases hs
  all_goals refine ⟨_, key _ _ rfl rfl rfl, ?_⟩
  all_goals simp only [VR, Value.bool.injEq]
  all_goals first | (exact decide_eq_true (by omega)) | (exact decide_eq_false (by omega)) | (simp; omega) | skip

theorem bin_ok (h : SR P η σ w) {op : BinOp} {t : TypeId} {x y : Operand} {a b v : AV} {u u' : Value} (hs : aBin P op t x y a b = some v) (hx : VR η a u) (hy : VR η b u') :
    ∃ z, (do eqGuard op t x y u u'; binOp op t u u' : Sem Value).run P w = .ok z w ∧ VR η v z := by
  unfold aBin at hs
  split at hs
  · split at hs
    · next e hu =>
      split at hs
      · next n hn =>
        split at hs
        · next hc =>
          cases hs
          obtain ⟨rfl, h0⟩ := hc
          simp only [VR] at hx hy
          obtain ⟨q, hq, rfl⟩ := hx
          obtain ⟨q', hq', rfl⟩ := hy
          rw [hq] at hq'; cases hq'
          exact ⟨_, bin_eql (eq_ptr_same hu hn h0 _ _ _ _) rfl rfl, by simp only [VR]⟩
        · cases hs
      · cases hs
    · cases hs
  · split at hs
    · next e hu =>
      split at hs
      · next n hn =>
        split at hs
        · next hc =>
          cases hs
          obtain ⟨rfl, h0⟩ := hc
          simp only [VR] at hx hy
          obtain ⟨q, hq, rfl⟩ := hx
          obtain ⟨q', hq', rfl⟩ := hy
          rw [hq] at hq'; cases hq'
          exact ⟨_, bin_neq (eq_ptr_same hu hn h0 _ _ _ _) rfl rfl, by simp only [VR]⟩
        · cases hs
      · cases hs
    · cases hs
  · split at hs
    · next hu => cases hs; simp only [VR] at hx hy; obtain ⟨q, hq, rfl⟩ := hx; subst hy; exact ⟨_, bin_eql (eq_ptr_nil hu _) rfl rfl, by simp only [VR]⟩
    · cases hs
  · split at hs
    · next hu => cases hs; simp only [VR] at hx hy; obtain ⟨q, hq, rfl⟩ := hy; subst hx; exact ⟨_, bin_eql (eq_nil_ptr hu _) rfl rfl, by simp only [VR]⟩
    · cases hs
  · split at hs
    · next hu => cases hs; simp only [VR] at hx hy; obtain ⟨q, hq, rfl⟩ := hx; subst hy; exact ⟨_, bin_neq (eq_ptr_nil hu _) rfl rfl, by simp only [VR]; rfl⟩
    · cases hs
  · split at hs
    · next hu => cases hs; simp only [VR] at hx hy; obtain ⟨q, hq, rfl⟩ := hy; subst hx; exact ⟨_, bin_neq (eq_nil_ptr hu _) rfl rfl, by simp only [VR]; rfl⟩
    · cases hs
  · split at hs
    · next hu => cases hs; simp only [VR] at hx hy; obtain ⟨bl, off, c, xs, sz, rfl, _⟩ := hx.resolve_left (by simp); subst hy; exact ⟨_, bin_eql (eq_sl_nil hu _ _ _) rfl rfl, by simp only [VR]⟩
    · cases hs
  · split at hs
    · next hu => cases hs; simp only [VR] at hx hy; obtain ⟨bl, off, c, xs, sz, rfl, _⟩ := hy.resolve_left (by simp); subst hx; exact ⟨_, bin_eql (eq_nil_sl hu _ _ _) rfl rfl, by simp only [VR]⟩
    · cases hs
  · split at hs
    · next hu => cases hs; simp only [VR] at hx hy; obtain ⟨bl, off, c, xs, sz, rfl, _⟩ := hx.resolve_left (by simp); subst hy; exact ⟨_, bin_neq (eq_sl_nil hu _ _ _) rfl rfl, by simp only [VR]; rfl⟩
    · cases hs
  · split at hs
    · next hu => cases hs; simp only [VR] at hx hy; obtain ⟨bl, off, c, xs, sz, rfl, _⟩ := hy.resolve_left (by simp); subst hx; exact ⟨_, bin_neq (eq_nil_sl hu _ _ _) rfl rfl, by simp only [VR]; rfl⟩
    · cases hs
  · split at hs
    · next hu => cases hs; simp only [VR] at hx hy; obtain ⟨bl, base, cs, elem, fr, x, _, _, rfl, _⟩ := hx; subst hy; exact ⟨_, bin_eql (eq_ptr_nil hu _) rfl rfl, by simp only [VR]⟩
    · cases hs
  · split at hs
    · next hu => cases hs; simp only [VR] at hx hy; obtain ⟨bl, base, cs, elem, fr, x, _, _, rfl, _⟩ := hy; subst hx; exact ⟨_, bin_eql (eq_nil_ptr hu _) rfl rfl, by simp only [VR]⟩
    · cases hs
  · split at hs
    · next hu => cases hs; simp only [VR] at hx hy; obtain ⟨bl, base, cs, elem, fr, x, _, _, rfl, _⟩ := hx; subst hy; exact ⟨_, bin_neq (eq_ptr_nil hu _) rfl rfl, by simp only [VR]; rfl⟩
    · cases hs
  · split at hs
    · next hu => cases hs; simp only [VR] at hx hy; obtain ⟨bl, base, cs, elem, fr, x, _, _, rfl, _⟩ := hy; subst hx; exact ⟨_, bin_neq (eq_nil_ptr hu _) rfl rfl, by simp only [VR]; rfl⟩
    · cases hs
  · split at hs
    · next hu => cases hs; simp only [VR] at hx hy; obtain ⟨q, hq, _, rfl⟩ := hx; subst hy; exact ⟨_, bin_eql (eq_sl_nil hu _ _ _) rfl rfl, by simp only [VR]⟩
    · cases hs
  · split at hs
    · next hu => cases hs; simp only [VR] at hx hy; obtain ⟨q, hq, _, rfl⟩ := hy; subst hx; exact ⟨_, bin_eql (eq_nil_sl hu _ _ _) rfl rfl, by simp only [VR]⟩
    · cases hs
  · split at hs
    · next hu => cases hs; simp only [VR] at hx hy; obtain ⟨q, hq, _, rfl⟩ := hx; subst hy; exact ⟨_, bin_neq (eq_sl_nil hu _ _ _) rfl rfl, by simp only [VR]; rfl⟩
    · cases hs
  · split at hs
    · next hu => cases hs; simp only [VR] at hx hy; obtain ⟨q, hq, _, rfl⟩ := hy; subst hx; exact ⟨_, bin_neq (eq_nil_sl hu _ _ _) rfl rfl, by simp only [VR]; rfl⟩
    · cases hs
  · split at hs
    · next hu => cases hs; simp only [VR] at hx hy; obtain ⟨q, rfl, hq⟩ := hx; subst hy; exact ⟨_, bin_eql (eq_ifc_nil hu _ _) rfl rfl, by simp only [VR]⟩
    · cases hs
  · split at hs
    · next hu => cases hs; simp only [VR] at hx hy; obtain ⟨q, rfl, hq⟩ := hy; subst hx; exact ⟨_, bin_eql (eq_nil_ifc hu _ _) rfl rfl, by simp only [VR]⟩
    · cases hs
  · split at hs
    · next hu => cases hs; simp only [VR] at hx hy; obtain ⟨q, rfl, hq⟩ := hx; subst hy; exact ⟨_, bin_neq (eq_ifc_nil hu _ _) rfl rfl, by simp only [VR]; rfl⟩
    · cases hs
  · split at hs
    · next hu => cases hs; simp only [VR] at hx hy; obtain ⟨q, rfl, hq⟩ := hy; subst hx; exact ⟨_, bin_neq (eq_nil_ifc hu _ _) rfl rfl, by simp only [VR]; rfl⟩
    · cases hs
  · split at hs
    · next hu => cases hs; simp only [VR] at hx hy; obtain ⟨q, hq, rfl⟩ := hx; subst hy; exact ⟨_, bin_eql (eq_map_nil hu _) rfl rfl, by simp only [VR]⟩
    · cases hs
  · split at hs
    · next hu => cases hs; simp only [VR] at hx hy; obtain ⟨q, hq, rfl⟩ := hy; subst hx; exact ⟨_, bin_eql (eq_nil_map hu _) rfl rfl, by simp only [VR]⟩
    · cases hs
  · split at hs
    · next hu => cases hs; simp only [VR] at hx hy; obtain ⟨q, hq, rfl⟩ := hx; subst hy; exact ⟨_, bin_neq (eq_map_nil hu _) rfl rfl, by simp only [VR]; rfl⟩
    · cases hs
  · split at hs
    · next hu => cases hs; simp only [VR] at hx hy; obtain ⟨q, hq, rfl⟩ := hy; subst hx; exact ⟨_, bin_neq (eq_nil_map hu _) rfl rfl, by simp only [VR]; rfl⟩
    · cases hs
  · split at hs
    · next hk => subst hk; simp only [VR] at hx hy; obtain ⟨m, h1, h2, rfl⟩ := hx; subst hy; exact cmpZ_ok hs h1 h2 (Int.le_refl _) (Int.le_refl _)
    · cases hs
  · split at hs
    · next hk => subst hk; simp only [VR] at hx hy; obtain ⟨m, h1, h2, rfl⟩ := hy; subst hx; exact cmpZ_ok hs (Int.le_refl _) (Int.le_refl _) h1 h2
    · cases hs
  · split at hs
    · next u1 u2 h1 h2 =>
      simp only [Option.bind_eq_some_iff] at hs
      obtain ⟨z, hz, hv⟩ := hs
      rw [scalar_VR h1 hx, scalar_VR h2 hy]
      exact ⟨z, pureRun_run hz w, ofVal_VR _ _ _ hv⟩
    · cases hs

end
end Go.Abs

/-! # AbsOps5 -/
namespace Go.Abs
noncomputable section
variable [TabsOf]
set_option linter.unusedSectionVars false
set_option linter.unusedVariables false
set_option linter.unusedSimpArgs false
variable {P : Program} {η : Env} {σ σ' : ASt} {w : World}

/-! ### Building an aggregate -/
def PRs (η : Env) : List (Nat × AV) → List (Nat × Value) → Prop
  | [], ps => ps = []
  | (i, a) :: l, ps => ∃ x rest, ps = (i, x) :: rest ∧ VR η a x ∧ PRs η l rest

theorem foldl_setFrom (off : Nat) : ∀ (l : List Value) (k : Nat) (cs : Array Value),
    (l.zipIdx k).foldl (fun cs (c, j) => cs.setIfInBounds (off + j) c) cs = setFrom cs (off + k) l
  | [], _, _ => rfl
  | v :: l, k, cs => by
    simp only [List.zipIdx_cons, List.foldl_cons]
    rw [foldl_setFrom off l (k + 1)]
    rfl

theorem setRange_VRs {c c' vs : List AV} {off : Nat} {cs : Array Value} {xs : List Value} (h : setRange c off vs = some c') (hc : VRs η c cs.toList) (hv : VRs η vs xs) : VRs η c' (setFrom cs off xs).toList := by
  obtain ⟨h1, h2, h3⟩ := setRange_some h
  have hl := hc.length; have hl' := hv.length
  simp only [Array.length_toList] at hl
  refine VRs.of ?_ fun k a hk => ?_
  · have := setFrom_size xs cs off; simp only [Array.length_toList]; omega
  · rw [h3] at hk
    rw [Array.getElem?_toList, setFrom_get _ _ _ _ (by omega)]
    split at hk
    · next h4 =>
      rw [if_pos (by omega)]
      obtain ⟨x, hx, hvx⟩ := hv.at hk
      exact ⟨x, hx, hvx⟩
    · rw [if_neg (by omega)]
      obtain ⟨x, hx, hvx⟩ := hc.at hk
      rw [Array.getElem?_toList] at hx
      exact ⟨x, hx, hvx⟩

theorem fill_ok {place : Nat → Option (Nat × Nat)} : ∀ {ps : List (Nat × AV)} {qs : List (Nat × Value)} {c c' : List AV} {cs : Array Value},
    aFill place c ps = some c' → PRs η ps qs → VRs η c cs.toList → ∃ cs', Instr.fill place cs qs = some cs' ∧ VRs η c' cs'.toList
  | [], qs, c, c', cs, h, hp, hc => by
    simp only [PRs] at hp; subst hp
    simp only [aFill, Option.some.injEq] at h; subst h
    exact ⟨cs, rfl, hc⟩
  | (i, a) :: ps, qs, c, c', cs, h, hp, hc => by
    simp only [PRs] at hp
    obtain ⟨x, rest, rfl, hx, hp⟩ := hp
    unfold aFill at h
    split at h
    · cases h
    · next off size hpl =>
      split at h
      · next hsz =>
        split at h
        · next c1 hr =>
          have hcells := cells_VRs hx
          have hlen := hcells.length
          have h1 := setRange_VRs hr hc hcells
          obtain ⟨hb, _, _⟩ := setRange_some hr
          have hcl := hc.length
          simp only [Array.length_toList] at hlen hcl
          obtain ⟨cs', hf, hv⟩ := fill_ok h hp h1
          refine ⟨cs', ?_, hv⟩
          unfold Instr.fill
          simp only [hpl]
          rw [if_neg (by simp; omega)]
          rw [← hf]
          congr 1
          have hz := foldl_setFrom off x.cells.toList 0 cs
          rw [Nat.add_zero] at hz
          rw [← hz, ← Array.foldl_toList, Array.toList_zipIdx]
        · cases h
      · cases h

theorem evalParts_ok {ev : Operand → Option AV} {ρ : Operand → Value} (hρ : ∀ x a, ev x = some a → VR η a (ρ x)) : ∀ {l : List (Nat × Operand)} {ps : List (Nat × AV)},
    evalParts ev l = some ps → PRs η ps (l.map fun (i, x) => (i, ρ x))
  | [], ps, h => by simp [evalParts] at h; subst h; simp [PRs]
  | (i, x) :: l, ps, h => by
    unfold evalParts at h
    split at h
    · next v r hv hr =>
      cases h
      exact ⟨ρ x, _, rfl, hρ _ _ hv, evalParts_ok hρ hr⟩
    · cases h

theorem evals_ok {ev : Operand → Option AV} {ρ : Operand → Value} (hρ : ∀ x a, ev x = some a → VR η a (ρ x)) : ∀ {l : List Operand} {vs : List AV},
    evals ev l = some vs → VRs η vs (l.map ρ)
  | [], vs, h => by simp [evals] at h; subst h; simp [VRs]
  | x :: l, vs, h => by
    unfold evals at h
    split at h
    · next v r hv hr =>
      cases h
      exact VRs.cons (hρ _ _ hv) (evals_ok hρ hr)
    · cases h

theorem mapM_sizes : ∀ {fs : List Field} {ps : List (Nat × Nat)}, sizesOf P fs = some ps → (fs.mapM fun f => do pure (f.offset, ← sizeOf f.type) : Sem (List (Nat × Nat))).run P w = .ok ps w
  | [], ps, h => by simp [sizesOf] at h; subst h; rfl
  | f :: fs, ps, h => by
    unfold sizesOf at h
    split at h
    · next n r hn hr =>
      cases h
      simp only [List.mapM_cons, Sem.run_bind, run_size hn, Result.andThen_ok, Sem.run_pure, mapM_sizes hr]
    · cases h

theorem build_ok {t : TypeId} {ps : List (Nat × AV)} {qs : Array (Nat × Value)} {v : AV} (hs : aBuild P t ps = some v) (hp : PRs η ps qs.toList) :
    ∃ y, (Instr.build t qs).run P w = .ok y w ∧ VR η v y := by
  unfold aBuild at hs
  split at hs
  · next zero fields hz hu =>
    obtain ⟨z, hzr, hzv⟩ := run_zero hz
    split at hs
    · next places hpl =>
      simp only [Option.map_eq_some_iff] at hs
      obtain ⟨c, hf, rfl⟩ := hs
      obtain ⟨cs, hf', hv⟩ := fill_ok hf hp (hzv η)
      refine ⟨.agg cs, ?_, by simp only [VR]; exact ⟨cs.toList, rfl, hv⟩⟩
      have hm : (fields.mapM fun f => do pure (f.offset, ← sizeOf f.type) : Sem (Array (Nat × Nat))).run P w = .ok ⟨places⟩ w := by
        rw [Array.mapM_eq_mapM_toList]
        simp only [Sem.run_map, mapM_sizes hpl, Result.andThen_ok]
      simp only [Instr.build, Sem.run_bind, hzr, Result.andThen_ok, run_under hu, hm]
      have : (fun i : Nat => (⟨places⟩ : Array (Nat × Nat))[i]?) = fun i : Nat => places[i]? := by funext i; simp
      rw [this, hf']
      rfl
    · cases hs
  · next zero n elem hz hu =>
    obtain ⟨z, hzr, hzv⟩ := run_zero hz
    split at hs
    · next size hn =>
      simp only [Option.map_eq_some_iff] at hs
      obtain ⟨c, hf, rfl⟩ := hs
      obtain ⟨cs, hf', hv⟩ := fill_ok hf hp (hzv η)
      refine ⟨.agg cs, ?_, by simp only [VR]; exact ⟨cs.toList, rfl, hv⟩⟩
      simp only [Instr.build, Sem.run_bind, hzr, Result.andThen_ok, run_under hu, run_size hn, hf']
      rfl
    · cases hs
  · cases hs

/-! ### Interface values -/
theorem makeIface_ok {t : TypeId} {a : AV} {x : Value} (h : isIfaceT P t = some false) (hx : VR η a x) : ∃ y, (Instr.makeInterface t x).run P w = .ok y w ∧ VR η (.ifc t a) y := by
  unfold isIfaceT at h
  split at h <;> cases h
  next d hno hu =>
  refine ⟨.iface t x, ?_, by simp only [VR]; exact ⟨x, rfl, hx⟩⟩
  simp only [Instr.makeInterface, Sem.run_bind, run_under hu, Result.andThen_ok]
  cases d <;> simp_all

theorem zeroOf_ok {t : TypeId} {i : TypeInfo} {z : Value} {a : AV} (hi : P.info? t = some i) (hz : i.zero = some z) (ha : ofVal 4 z = some a) : (zeroValue t).run P w = .ok z w ∧ VR η a z :=
  ⟨by simp [zeroValue, run_info hi, hz], ofVal_VR _ _ _ ha⟩

theorem typeAssert_ok {t xt : TypeId} {a v : AV} {x : Value} {ok : Bool} (hs : aTypeAssert P a t ok = some v) (hx : VR η a x) :
    ∃ y, (Instr.typeAssert x xt t ok).run P w = .ok y w ∧ VR η v y := by
  unfold aTypeAssert at hs
  split at hs
  · next u b hi =>
    simp only [VR] at hx
    obtain ⟨y, rfl, hy⟩ := hx
    have hd : ∃ d, P.underlying t = some d ∧ ∀ ms, d ≠ .interface ms := by
      unfold isIfaceT at hi
      split at hi <;> cases hi
      next d hno hu => exact ⟨d, hu, fun ms e => hno ms e⟩
    obtain ⟨d, hu, hno⟩ := hd
    split at hs
    · next e =>
      cases hs
      subst e
      refine ⟨if ok then .tuple #[y, .bool true] else y, ?_, ?_⟩
      · simp only [Instr.typeAssert, Sem.run_bind, run_under hu, Result.andThen_ok]
        cases d <;> simp_all
      · cases ok
        · simpa using hy
        · simp only [VR]; exact ⟨[y, .bool true], rfl, VRs.cons hy (VRs.cons (by simp [VR]) (by simp [VRs]))⟩
    · next e =>
      split at hs
      · next hok =>
        split at hs
        · next i hinf =>
          split at hs
          · next z hz =>
            simp only [Option.map_eq_some_iff] at hs
            obtain ⟨a, ha, rfl⟩ := hs
            obtain ⟨h1, h2⟩ := zeroOf_ok (w := w) (η := η) hinf hz ha
            refine ⟨.tuple #[z, .bool false], ?_, ?_⟩
            · subst hok
              simp only [Instr.typeAssert, Sem.run_bind, run_under hu, Result.andThen_ok]
              have e' : ¬ u = t := e
              cases d <;> simp_all
            · simp only [VR]; exact ⟨[z, .bool false], rfl, VRs.cons h2 (VRs.cons (by simp [VR]) (by simp [VRs]))⟩
          · cases hs
        · cases hs
      · cases hs
  · next hi =>
    simp only [VR] at hx; subst hx
    have hd : ∃ d, P.underlying t = some d ∧ ∀ ms, d ≠ .interface ms := by
      unfold isIfaceT at hi
      split at hi <;> cases hi
      next d hno hu => exact ⟨d, hu, fun ms e => hno ms e⟩
    obtain ⟨d, hu, hno⟩ := hd
    split at hs
    · next hok =>
      split at hs
      · next i hinf =>
        split at hs
        · next z hz =>
          simp only [Option.map_eq_some_iff] at hs
          obtain ⟨a, ha, rfl⟩ := hs
          obtain ⟨h1, h2⟩ := zeroOf_ok (w := w) (η := η) hinf hz ha
          refine ⟨.tuple #[z, .bool false], ?_, ?_⟩
          · subst hok
            simp only [Instr.typeAssert, Sem.run_bind, run_under hu, Result.andThen_ok]
            cases d <;> simp_all
          · simp only [VR]; exact ⟨[z, .bool false], rfl, VRs.cons h2 (VRs.cons (by simp [VR]) (by simp [VRs]))⟩
        · cases hs
      · cases hs
    · cases hs
  · cases hs

theorem extract_ok {l : List AV} {k : Nat} {v : AV} {x : Value} (hs : l[k]? = some v) (hx : VR η (.tup l) x) : ∃ y, (Instr.extract x k).run P w = .ok y w ∧ VR η v y := by
  simp only [VR] at hx
  obtain ⟨vs, rfl, hv⟩ := hx
  obtain ⟨y, hy, hvy⟩ := hv.at hs
  exact ⟨y, by simp [Instr.extract, hy], hvy⟩

/-! ### Maps that are read -/
theorem beqBytes (s s' : List UInt8) : ((⟨⟨s⟩⟩ : ByteArray) == ⟨⟨s'⟩⟩) = (s == s') := by
  show ByteArray.beq _ _ = _
  unfold ByteArray.beq
  simp

theorem keySame_ok {kd : TypeDesc} {a b : AV} {x y : Value} {r : Bool} (hf : match kd, a with | .int _, .i _ _ | .int _, .z _ _ _ | .string, .s _ | .bool, .b _ => True | _, _ => False) (h : keySame a b = some r) (hx : VR η a x) (hy : VR η b y) :
    Instr.sameNow kd x y = some r := by
  unfold keySame at h
  split at h
  · next k n k' n' =>
    simp only [VR] at hx hy; subst hx; subst hy
    cases kd <;> simp at hf
    simp only [Instr.sameNow]; split at h
    · next e => rw [if_pos e]; exact h
    · cases h
  · next s s' =>
    simp only [VR] at hx hy; subst hx; subst hy
    cases kd <;> simp at hf
    simp only [Instr.sameNow]
    rw [← h, beqBytes]
  · next s s' =>
    simp only [VR] at hx hy; subst hx; subst hy
    cases kd <;> simp at hf
    simp only [Instr.sameNow]; exact h
  · next k lo hi k' n =>
    simp only [VR] at hx hy; obtain ⟨m, h1, h2, rfl⟩ := hx; subst hy
    cases kd <;> simp at hf
    split at h
    · next e =>
      cases h
      obtain ⟨e, e2⟩ := e
      simp only [Instr.sameNow]
      rw [if_pos e]
      have : m ≠ n := by omega
      simp [this]
    · cases h
  · cases h

end
end Go.Abs

/-! # AbsOps6 -/
namespace Go.Abs
noncomputable section
variable [TabsOf]
set_option linter.unusedSectionVars false
set_option linter.unusedVariables false
set_option linter.unusedSimpArgs false
variable {P : Program} {η : Env} {σ σ' : ASt} {w : World}

def MRs (η : Env) (es : List (AV × AV)) (ms : List MapEntry) : Prop :=
  ms.length = es.length ∧ ∀ (k : Nat) e, es[k]? = some e → ∃ m, ms[k]? = some m ∧ VR η e.1 m.key ∧ VR η e.2 m.val

theorem MRs.tail {e : AV × AV} {es : List (AV × AV)} {ms : List MapEntry} (h : MRs η (e :: es) ms) : ∃ m rest, ms = m :: rest ∧ VR η e.1 m.key ∧ VR η e.2 m.val ∧ MRs η es rest := by
  obtain ⟨hl, hp⟩ := h
  cases ms with
  | nil => simp at hl
  | cons m rest =>
    obtain ⟨m', hm, h1, h2⟩ := hp 0 e (by simp)
    simp at hm; subst hm
    exact ⟨m, rest, rfl, h1, h2, by simpa using hl, fun k e' hk => by simpa using hp (k + 1) e' (by simpa using hk)⟩

def FitsKey (kd : TypeDesc) (a : AV) : Prop := match kd, a with | .int _, .i _ _ | .int _, .z _ _ _ | .string, .s _ | .bool, .b _ => True | _, _ => False

theorem find_ok {kd : TypeDesc} {k : AV} {x : Value} (hf : FitsKey kd k) (hx : VR η k x) : ∀ {es : List (AV × AV)} {ms : List MapEntry} {i : Nat} {r : Option (Nat × AV)},
    findA k es i = some r → MRs η es ms → ∃ r', Instr.findNow kd x ms i = some r' ∧ (match r, r' with | none, none => True | some (j, v), some (j', y) => j = j' ∧ i ≤ j ∧ j < i + es.length ∧ VR η v y | _, _ => False)
  | [], ms, i, r, h, hm => by
    simp only [findA, Option.some.injEq] at h; subst h
    have : ms = [] := by have := hm.1; cases ms <;> simp_all
    subst this
    exact ⟨none, rfl, trivial⟩
  | e :: es, ms, i, r, h, hm => by
    obtain ⟨m, rest, rfl, h1, h2, h3⟩ := hm.tail
    unfold findA at h
    split at h
    · next hk =>
      cases h
      have hs := keySame_ok (kd := kd) hf hk hx h1
      exact ⟨some (i, m.val), by simp [Instr.findNow, hs], rfl, Nat.le_refl _, by simp, h2⟩
    · next hk =>
      have hs := keySame_ok (kd := kd) hf hk hx h1
      obtain ⟨r', hr, hrel⟩ := find_ok hf hx h h3
      refine ⟨r', by simp [Instr.findNow, hs, hr], ?_⟩
      cases r <;> cases r' <;> simp only at hrel ⊢
      obtain ⟨a, b, c, d⟩ := hrel
      exact ⟨a, by omega, by simp; omega, d⟩
    · cases h

theorem fitKey_ok {t : TypeId} {k : AV} (h : fitKey P t k = true) : ∃ kd, P.underlying t = some kd ∧ FitsKey kd k := by
  unfold fitKey at h
  split at h
  · next hu => exact ⟨_, hu, trivial⟩
  · next hu => exact ⟨_, hu, trivial⟩
  · next hu => exact ⟨_, hu, trivial⟩
  · next hu => exact ⟨_, hu, trivial⟩
  · cases h

theorem checkKey_ok {t : TypeId} {k : AV} {x : Value} {kd : TypeDesc} (hu : P.underlying t = some kd) (hf : FitsKey kd k) (hx : VR η k x) (b : Bool) : (Instr.checkKey b 10000 t x).run P w = .ok () w := by
  have H : ∀ n : Nat, (Instr.checkKey b (n + 1) t x).run P w = .ok () w := fun n => by
    cases kd <;> cases k <;> simp only [FitsKey] at hf <;> simp only [VR] at hx <;> (first | subst hx | obtain ⟨_, _, _, rfl⟩ := hx) <;> simp only [Instr.checkKey, Sem.run_bind, run_under hu, Result.andThen_ok, Sem.run_pure]
  exact H 9999

def lkTail (kt et : TypeId) (y : Value) (ok : Bool) (es : Array MapEntry) : Sem Value := do
  Instr.checkKey es.isEmpty 10000 kt y
  let (v, k) ← match ← Instr.findKey kt y es.toList with
    | some (_, v) => pure (v, true)
    | none => pure (← zeroValue et, false)
  pure (if ok then .tuple #[v, .bool k] else v)

theorem lookup_nil {t kt et : TypeId} (hu : P.underlying t = some (.map kt et)) (y : Value) (ok : Bool) : (Instr.lookup t (.map none) y ok).run P w = (lkTail kt et y ok #[]).run P w := by
  simp only [Instr.lookup, lkTail, Sem.run_bind, run_under hu, Result.andThen_ok, Sem.run_pure]
  congr 1
theorem lookup_some {t kt et : TypeId} (hu : P.underlying t = some (.map kt et)) (y : Value) (ok : Bool) {r : Nat} {ms : Array MapEntry} {clock : Nat} (hb : w.heap[r]? = some (.map ms clock)) :
    (Instr.lookup t (.map (some r)) y ok).run P w = (lkTail kt et y ok ms).run P w := by
  have hg : (getObj r).run P w = .ok (.map ms clock) w := by simp [getObj, Sem.run, hb]
  simp only [Instr.lookup, lkTail, Sem.run_bind, run_under hu, Result.andThen_ok, Sem.run_pure, hg]
  congr 1

theorem lookup_ok (h : SR P η σ w) {t : TypeId} {m k v : AV} {x y : Value} {ok : Bool} (hs : aLookup P t m k ok σ = some v) (hx : VR η m x) (hy : VR η k y) :
    ∃ z, (Instr.lookup t x y ok).run P w = .ok z w ∧ VR η v z := by
  unfold aLookup at hs
  split at hs
  · next kt et hu =>
    split at hs
    · next es hes =>
      split at hs
      · next hfit =>
        obtain ⟨kd, hku, hf⟩ := fitKey_ok hfit
        have hms : ∃ ms : Array MapEntry, (Instr.lookup t x y ok).run P w = (lkTail kt et y ok ms).run P w ∧ MRs η es ms.toList := by
          split at hes
          · cases hes
            simp only [VR] at hx; subst hx
            exact ⟨#[], lookup_nil hu y ok, by simp [MRs]⟩
          · next id =>
            simp only [VR] at hx
            obtain ⟨q, hq, rfl⟩ := hx
            split at hes
            · next es' hg =>
              cases hes
              obtain ⟨q', hq', ms, clock, hb, hsz, hp⟩ := h.obj _ _ hg rfl
              rw [hq] at hq'; cases hq'
              refine ⟨ms, lookup_some hu y ok hb, by simpa using hsz, fun k e hk => ?_⟩
              obtain ⟨m, hm, h1, h2⟩ := hp k e hk
              exact ⟨m, by simpa using hm, h1, h2⟩
            · cases hes
          · cases hes
        obtain ⟨ms, hrun, hmr⟩ := hms
        rw [hrun]
        have hck : ∀ b, (Instr.checkKey b 10000 kt y).run P w = .ok () w := fun b => checkKey_ok hku hf hy b
        have key : ∀ r, findA k es 0 = some r → ∃ r', (Instr.findKey kt y ms.toList).run P w = .ok r' w ∧ (match r, r' with | none, none => True | some (j, v), some (j', y) => j = j' ∧ 0 ≤ j ∧ j < 0 + es.length ∧ VR η v y | _, _ => False) := fun r hr => by
          obtain ⟨r', h1, h2⟩ := find_ok hf hy hr hmr
          exact ⟨r', by simp only [Instr.findKey, Sem.run_bind, run_under hku, Result.andThen_ok, h1, Sem.run_pure], h2⟩
        split at hs
        · next j u hfound =>
          cases hs
          obtain ⟨r', h1, h2⟩ := key _ hfound
          cases r' with
          | none => exact h2.elim
          | some p =>
            obtain ⟨j', z⟩ := p
            obtain ⟨rfl, _, _, hvz⟩ := h2
            refine ⟨if ok then .tuple #[z, .bool true] else z, ?_, ?_⟩
            · simp only [lkTail, Sem.run_bind, Result.andThen_ok, hck, h1, Sem.run_pure]
            · cases ok
              · simpa using hvz
              · simp only [VR]; exact ⟨[z, .bool true], rfl, VRs.cons hvz (VRs.cons (by simp [VR]) (by simp [VRs]))⟩
        · next hfound =>
          obtain ⟨r', h1, h2⟩ := key _ hfound
          cases r' with
          | some p => exact h2.elim
          | none =>
            split at hs
            · next i hinf =>
              split at hs
              · next z hz =>
                simp only [Option.map_eq_some_iff] at hs
                obtain ⟨a, ha, rfl⟩ := hs
                obtain ⟨h3, h4⟩ := zeroOf_ok (w := w) (η := η) hinf hz ha
                refine ⟨if ok then .tuple #[z, .bool false] else z, ?_, ?_⟩
                · simp only [lkTail, Sem.run_bind, Result.andThen_ok, hck, h1, h3, Sem.run_pure]
                · cases ok
                  · simpa using h4
                  · simp only [VR]; exact ⟨[z, .bool false], rfl, VRs.cons h4 (VRs.cons (by simp [VR]) (by simp [VRs]))⟩
              · cases hs
            · cases hs
        · cases hs
      · cases hs
    · cases hs
  · cases hs

theorem sameBits_refl {k : AV} {x y : Value} {kd : TypeDesc} (hf : FitsKey kd k) (hx : VR η k x) (hy : Instr.sameNow kd x y = some true) (n : Nat) : Instr.sameBits (n + 1) y x = true := by
  cases kd <;> cases k <;> simp only [FitsKey] at hf <;> simp only [VR] at hx <;> (first | subst hx | obtain ⟨_, _, _, rfl⟩ := hx) <;> cases y <;> simp only [Instr.sameNow, Option.some.injEq, reduceCtorEq] at hy
  · simp_all [Instr.sameBits]
  · split at hy
    · simp_all [Instr.sameBits]
    · cases hy
  · split at hy
    · simp_all [Instr.sameBits]
    · cases hy
  · next s s' =>
    obtain ⟨⟨l⟩⟩ := s'
    rw [beqBytes] at hy
    simp only [Instr.sameBits, beqBytes]
    simp_all

/-! ### New blocks -/
theorem cells_new (h : SR P η σ w) {c : List AV} {xs : Array Value} {elem : TypeId} {opn : Bool} {es : Nat} (hv : VRs η c (xs.toList.take c.length)) (hle : c.length ≤ xs.size) (hshut : opn = false → c.length = xs.size)
    (hroom : opn = true → elem ≠ 0 ∧ 0 < es ∧ sizeT P elem = some es) :
    St P η σ w (η.put σ.next ⟨w.heap.size, 0, xs.size, es⟩) (σ.new (.cells c elem true opn)) { w with heap := w.heap.push (.cells xs elem) } := by
  refine St.alloc h _ _ _ rfl ?_
  refine ⟨xs, elem, (0, 0), by simp, ?_⟩
  refine { fits := by simp, le := hle, shut := hshut, cell := ?_, free := fun _ k _ => by simp, whole := fun _ => ⟨rfl, by simp, fun _ => rfl⟩, room := hroom }
  intro k a hk
  obtain ⟨x, hx, hvx⟩ := hv.at hk
  have hkl : k < c.length := (List.getElem?_eq_some_iff.1 hk).1
  rw [List.getElem?_take, if_pos hkl] at hx
  exact ⟨x, by simpa using hx, VR.mono (Env.put_le h _) _ _ hvx⟩

theorem new_p {q : Place} {id : Nat} (h0 : q.ba = 0) : VR (η.put id q) (.p id 0) (.pointer (some ⟨q.bl, 0, none⟩)) := by
  simp only [VR]; exact ⟨q, by simp [Env.put], by simp [h0]⟩

theorem alloc_ok (h : SR P η σ w) {t : TypeId} {z : List AV} (hz : zeroCellsOf P t = some z) :
    ∃ y w' η', (Instr.alloc t true (.tuple #[])).run P w = .ok y w' ∧ St P η σ w η' (σ.new (.cells z t true false)) w' ∧ VR η' (.p σ.next 0) y := by
  obtain ⟨zv, hzr, hzv⟩ := run_zero hz
  have hl := (hzv η).length
  refine ⟨_, _, _, ?_, cells_new h (xs := zv.cells) (es := 0) (opn := false) ?_ (by simpa using Nat.le_of_eq hl) (fun _ => by simpa using hl) (by simp), new_p rfl⟩
  · simp only [Instr.alloc, Sem.run_bind, hzr, Result.andThen_ok, newVar, newRow, newObj, Sem.run, Sem.run_pure]
  · rw [hl, List.take_length]; exact hzv η

theorem box_ok (h : SR P η σ w) {t : TypeId} {a : AV} {x : Value} (hx : VR η a x) :
    ∃ y w' η', (Instr.box t x).run P w = .ok y w' ∧ St P η σ w η' (σ.new (.cells a.cells t true false)) w' ∧ VR η' (.p σ.next 0) y := by
  have hc := cells_VRs hx
  have hl := hc.length
  refine ⟨_, _, _, ?_, cells_new h (xs := x.cells) (es := 0) (opn := false) ?_ (by simpa using Nat.le_of_eq hl) (fun _ => by simpa using hl) (by simp), new_p rfl⟩
  · simp only [Instr.box, Sem.run_bind, Result.andThen_ok, newVar, newRow, newObj, Sem.run, Sem.run_pure]
  · rw [hl, List.take_length]; exact hc

theorem elemInfo_some {t e : TypeId} {size bytes : Nat} {z : List AV} (h : elemInfo P t = some (e, size, bytes, z)) :
    P.underlying t = some (.slice e) ∧ (∃ i, P.info? e = some i ∧ i.size = size ∧ i.bytes = bytes) ∧ zeroCellsOf P e = some z ∧ e ≠ 0 ∧ z.length = size ∧ sizeT P e = some size := by
  unfold elemInfo at h
  split at h
  · next e' hu =>
    split at h
    · next i z' hi hz =>
      split at h
      · next hc =>
        cases h
        exact ⟨hu, ⟨i, hi, rfl, rfl⟩, hz, hc.1, hc.2, by simp [sizeT, hi]⟩
      · cases h
    · cases h
  · cases h

theorem repl_get {z : List AV} : ∀ (n k : Nat), k < n * z.length → (repl n z)[k]? = z[k % z.length]?
  | 0, k, h => by simp at h
  | n + 1, k, h => by
    have hs : repl (n + 1) z = z ++ repl n z := by simp [repl, List.replicate_succ]
    rw [hs]
    have hp : 0 < z.length := by rcases Nat.eq_zero_or_pos z.length with e | e <;> simp_all
    by_cases hk : k < z.length
    · rw [List.getElem?_append_left hk, Nat.mod_eq_of_lt hk]
    · rw [List.getElem?_append_right (by omega), repl_get n (k - z.length) (by rw [Nat.succ_mul] at h; omega)]
      congr 1
      have : k = (k - z.length) + z.length := by omega
      rw [this, Nat.add_mod_right]; congr 1; omega
theorem repl_length {z : List AV} (n : Nat) : (repl n z).length = n * z.length := by simp [repl]

theorem zeros_VRs {z : List AV} {zv : Array Value} {n size : Nat} (hz : VRs η z zv.toList) (hs : z.length = size) : VRs η (repl n z) ((Array.range (n * size)).map (zv[· % zv.size]!)).toList := by
  have hl := hz.length
  simp only [Array.length_toList] at hl
  refine VRs.of ?_ fun k a hk => ?_
  · rw [repl_length]; simp [hs]
  · have hkl : k < n * z.length := by have := (List.getElem?_eq_some_iff.1 hk).1; rwa [repl_length] at this
    rw [repl_get n k hkl] at hk
    obtain ⟨x, hx, hv⟩ := hz.at hk
    refine ⟨x, ?_, hv⟩
    have hk2 : k < n * size := by rw [← hs]; exact hkl
    rw [Array.getElem?_toList] at hx
    rw [Array.getElem?_toList, Array.getElem?_map, Array.getElem?_range, if_pos hk2]
    have hm : k % zv.size < zv.size := by
      have := (Array.getElem?_eq_some_iff.1 hx).1; rwa [hl] at this
    rw [hl] at hx
    simp [hm, getElem!_pos] 
    have := (Array.getElem?_eq_some_iff.1 hx).2
    exact this

end
end Go.Abs
