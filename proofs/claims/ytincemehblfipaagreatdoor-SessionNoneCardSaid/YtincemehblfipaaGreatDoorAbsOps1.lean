/- The operations, one by one: what the model's operation does where the evaluator's answers. -/
import Derived.Test.YtincemehblfipaaGreatDoorAbsMem
namespace Go.Abs
noncomputable section
variable [TabsOf]
set_option linter.unusedSectionVars false
set_option linter.unusedVariables false
set_option linter.unusedSimpArgs false
variable {P : Program} {η : Env} {σ σ' : ASt} {w : World}

theorem run_under {t : TypeId} {d : TypeDesc} (h : P.underlying t = some d) : (underlying t).run P w = .ok d w := by
  simp [underlying, program, Sem.run, h]
theorem run_size {t : TypeId} {n : Nat} (h : sizeT P t = some n) : (sizeOf t).run P w = .ok n w := by
  simp only [sizeT, Option.map_eq_some_iff] at h
  obtain ⟨i, hi, rfl⟩ := h
  simp [sizeOf, typeInfo, program, Sem.run, hi]
theorem run_isAgg {t : TypeId} {b : Bool} (h : isAggT P t = some b) : (isAgg t).run P w = .ok b w := by
  unfold isAggT at h
  split at h <;> cases h
  · next h' => simp [isAgg, run_under h']
  · next h' => simp [isAgg, run_under h']
  · next d h' h1 h2 =>
    cases d <;> simp_all [isAgg, run_under]
theorem run_info {t : TypeId} {i : TypeInfo} (h : P.info? t = some i) : (typeInfo t).run P w = .ok i w := by
  simp [typeInfo, program, Sem.run, h]

theorem cells_VRs {a : AV} {v : Value} (h : VR η a v) : VRs η a.cells v.cells.toList := by
  cases a <;> simp only [VR] at h
  case agg l => obtain ⟨vs, rfl, h1⟩ := h; simpa [AV.cells, Value.cells] using h1
  case tup l => obtain ⟨vs, rfl, h1⟩ := h; simp only [AV.cells, Value.cells]; exact VRs.cons (by simp only [VR]; exact ⟨vs, rfl, h1⟩) (by simp [VRs])
  case p id off => obtain ⟨q, hq, rfl⟩ := h; exact VRs.cons (by simp only [VR]; exact ⟨q, hq, rfl⟩) (by simp [VRs])
  case sl id off len cap => obtain ⟨q, hq, hle, rfl⟩ := h; exact VRs.cons (by simp only [VR]; exact ⟨q, hq, hle, rfl⟩) (by simp [VRs])
  case mp id => obtain ⟨q, hq, rfl⟩ := h; exact VRs.cons (by simp only [VR]; exact ⟨q, hq, rfl⟩) (by simp [VRs])
  case fn f fi cs => obtain ⟨us, vs, rfl, h1, h2⟩ := h; exact VRs.cons (by simp only [VR]; exact ⟨us, vs, rfl, h1, h2⟩) (by simp [VRs])
  case ifc t b => obtain ⟨x, rfl, h1⟩ := h; exact VRs.cons (by simp only [VR]; exact ⟨x, rfl, h1⟩) (by simp [VRs])
  case z k lo hi => obtain ⟨n, h1, h2, rfl⟩ := h; exact VRs.cons (by simp only [VR]; exact ⟨n, h1, h2, rfl⟩) (by simp [VRs])
  case ro l =>
    have h' : VR η (.ro l) v := by simp only [VR]; exact h
    rcases h with ⟨_, rfl⟩ | ⟨bl, off, c, xs, sz, rfl, h1⟩
    · exact VRs.cons h' (by simp [VRs])
    · exact VRs.cons h' (by simp [VRs])
  case rp a off => obtain ⟨bl, base, cs, elem, fr, x, h1, h2, rfl, h3⟩ := h; exact VRs.cons (by simp only [VR]; exact ⟨bl, base, cs, elem, fr, x, h1, h2, rfl, h3⟩) (by simp [VRs])
  all_goals subst h; exact VRs.cons (by simp only [VR]) (by simp [VRs])

theorem oneC_of {a : AV} {v : Value} (h : VR η a v) (ha : a.isAddrOrScalar = true) : oneC v = true := by
  cases a <;> simp only [VR] at h <;> simp [AV.isAddrOrScalar] at ha
  case p id off => obtain ⟨q, hq, rfl⟩ := h; rfl
  case sl id off len cap => obtain ⟨q, hq, _, rfl⟩ := h; rfl
  case mp id => obtain ⟨q, hq, rfl⟩ := h; rfl
  case fn f fi cs => obtain ⟨us, vs, rfl, h1, h2⟩ := h; rfl
  case ifc t b => obtain ⟨x, rfl, h1⟩ := h; rfl
  case z k lo hi => obtain ⟨n, h1, h2, rfl⟩ := h; rfl
  case ro l => rcases h with ⟨_, rfl⟩ | ⟨bl, off, c, xs, sz, rfl, h1⟩ <;> rfl
  case rp a off => obtain ⟨bl, base, cs, elem, fr, x, h1, h2, rfl, h3⟩ := h; rfl
  all_goals subst h; rfl

/-! ### Elements that nobody changes -/
theorem cellsL_length {xs : List Value} {sz : Nat} (h : ∀ x ∈ xs, x.cells.size = sz) : (cellsL xs).length = xs.length * sz := by
  induction xs with
  | nil => simp [cellsL]
  | cons x xs ih =>
    have h0 := h x (by simp)
    have := ih fun y hy => h y (by simp [hy])
    simp only [cellsL, List.flatMap_cons, List.length_append, List.length_cons] at this ⊢
    rw [this, Nat.add_mul, Nat.one_mul, Nat.add_comm]
    simp [h0]
theorem cellsL_drop {xs : List Value} {sz : Nat} (h : ∀ x ∈ xs, x.cells.size = sz) (i : Nat) : (cellsL xs).drop (i * sz) = cellsL (xs.drop i) := by
  induction xs generalizing i with
  | nil => simp [cellsL]
  | cons x xs ih =>
    cases i with
    | zero => simp
    | succ i =>
      have h0 := h x (by simp)
      have := ih (fun y hy => h y (by simp [hy])) i
      simp only [List.drop_succ_cons]
      rw [← this]
      simp only [cellsL, List.flatMap_cons]
      have hl : x.cells.toList.length = sz := by simpa using h0
      rw [show (i + 1) * sz = x.cells.toList.length + i * sz by rw [hl, Nat.add_mul, Nat.one_mul, Nat.add_comm]]
      rw [List.drop_append, List.drop_of_length_le (by omega), List.nil_append, Nat.add_sub_cancel_left]
theorem cellsL_take {xs : List Value} {sz : Nat} (h : ∀ x ∈ xs, x.cells.size = sz) (i : Nat) : (cellsL xs).take (i * sz) = cellsL (xs.take i) := by
  induction xs generalizing i with
  | nil => simp [cellsL]
  | cons x xs ih =>
    cases i with
    | zero => simp [cellsL]
    | succ i =>
      have h0 := h x (by simp)
      have := ih (fun y hy => h y (by simp [hy])) i
      simp only [List.take_succ_cons]
      simp only [cellsL, List.flatMap_cons] at this ⊢
      have hl : x.cells.toList.length = sz := by simpa using h0
      rw [show (i + 1) * sz = x.cells.toList.length + i * sz by rw [hl, Nat.add_mul, Nat.one_mul, Nat.add_comm]]
      rw [List.take_length_add_append, this]
theorem cellsL_at {xs : List Value} {sz i : Nat} {x : Value} (h : ∀ x ∈ xs, x.cells.size = sz) (hi : xs[i]? = some x) (k : Nat) (hk : k < sz) : (cellsL xs)[i * sz + k]? = x.cells[k]? := by
  have h1 := cellsL_drop h i
  have hlt := (List.getElem?_eq_some_iff.1 hi).1
  have hd : xs.drop i = x :: xs.drop (i + 1) := by
    rw [← (List.getElem?_eq_some_iff.1 hi).2]; exact List.drop_eq_getElem_cons hlt
  have : (cellsL xs)[i * sz + k]? = ((cellsL xs).drop (i * sz))[k]? := by rw [List.getElem?_drop]
  rw [this, h1, hd]
  have hs := h x (List.mem_of_getElem? hi)
  simp only [cellsL, List.flatMap_cons]
  rw [List.getElem?_append_left (by simpa [hs] using hk)]
  simp
theorem cells_length {a : AV} {v : Value} (h : VR η a v) : a.cells.length = v.cells.size := by
  have := (cells_VRs h).length; simpa using this
theorem flat_VRs {l : List AV} {xs : List Value} (h : VRs η l xs) : VRs η (l.flatMap AV.cells) (cellsL xs) := by
  induction l generalizing xs with
  | nil => simp only [VRs] at h; subst h; simp [VRs, cellsL]
  | cons a l ih =>
    simp only [VRs] at h
    obtain ⟨x, ys, rfl, h1, h2⟩ := h
    simp only [List.flatMap_cons, cellsL]
    exact VRs.append (cells_VRs h1) (ih h2)
theorem all_size {l : List AV} {xs : List Value} {n : Nat} (h : VRs η l xs) (ha : l.all (fun a => a.cells.length == n) = true) : ∀ x ∈ xs, x.cells.size = n := by
  intro x hx
  obtain ⟨k, hk⟩ := List.mem_iff_getElem?.1 hx
  have hlt : k < l.length := by have := (List.getElem?_eq_some_iff.1 hk).1; have := h.length; omega
  obtain ⟨y, hy, hvy⟩ := h.at (List.getElem?_eq_getElem hlt)
  rw [hk] at hy; cases hy
  have := List.all_eq_true.1 ha _ (List.getElem_mem hlt)
  rw [← cells_length hvy]
  simpa using this
/-- An element, and where it lies. -/
theorem ro_elem {l : List AV} {v : Value} (h : VR η (.ro l) v) {i size : Nat} {a : AV} (hi : l[i]? = some a) (hs : a.cells.length = size) :
    ∃ bl off c cs elem fr x, v = .slice (some ⟨bl, off, none⟩) l.length c ∧ l.length ≤ c ∧ η.ro bl = some (.cells cs elem fr) ∧ VR η a x ∧ off + i * size + x.cells.size ≤ cs.size ∧ cellsAt cs (off + i * size) x.cells.toList := by
  simp only [VR] at h
  rcases h with ⟨rfl, _⟩ | ⟨bl, off, c, xs, sz, rfl, hc, h1, h2, h3⟩
  · simp at hi
  obtain ⟨x, hx, hvx⟩ := h1.at hi
  obtain ⟨cs, elem, fr, h4, h5, h6⟩ := h3 (by intro e; subst e; simp at hi)
  have hsz := h2 x (List.mem_of_getElem? hx)
  have : sz = size := by rw [← hsz, ← cells_length hvx, hs]
  subst this
  have hlen := cellsL_length h2
  have hlt := (List.getElem?_eq_some_iff.1 hx).1
  have hmul : (i + 1) * sz ≤ xs.length * sz := Nat.mul_le_mul_right _ hlt
  rw [Nat.add_mul, Nat.one_mul] at hmul
  refine ⟨bl, off, c, cs, elem, fr, x, rfl, hc, h4, hvx, by omega, fun k y hk => ?_⟩
  have hks : k < sz := by have := (List.getElem?_eq_some_iff.1 hk).1; simp at this; omega
  have := h6 (i * sz + k) y (by rw [cellsL_at h2 hx k hks]; simpa using hk)
  rw [← Nat.add_assoc] at this
  exact this

theorem run_zero {t : TypeId} {zc : List AV} (h : zeroCellsOf P t = some zc) : ∃ z, (∀ w, (zeroValue t).run P w = .ok z w) ∧ ∀ η : Env, VRs η zc z.cells.toList := by
  unfold zeroCellsOf at h
  split at h
  · next i hi =>
    split at h
    · next z hz =>
      simp only [Option.map_eq_some_iff] at h
      obtain ⟨a, ha, rfl⟩ := h
      exact ⟨z, fun w => by simp [zeroValue, run_info hi, hz], fun η => cells_VRs (ofVal_VR _ _ _ ha)⟩
    · cases h
  · cases h

theorem takeN_some {l r : List AV} {off n : Nat} (h : takeN l off n = some r) : r = (l.drop off).take n ∧ r.length = n ∧ (n = 0 ∨ off + n ≤ l.length) := by
  simp only [takeN] at h
  split at h
  · next h1 =>
    cases h
    refine ⟨rfl, h1, ?_⟩
    simp at h1; omega
  · cases h

theorem takeN_at {l r : List AV} {off n : Nat} (h : takeN l off n = some r) {k : Nat} {a : AV} (hk : r[k]? = some a) : l[off + k]? = some a := by
  obtain ⟨rfl, _, _⟩ := takeN_some h
  rw [List.getElem?_take] at hk
  split at hk
  · rw [List.getElem?_drop] at hk; exact hk
  · cases hk

theorem CellsR.take {q : Place} {c : List AV} {et : TypeId} {rw opn : Bool} {cs : Array Value} {elem : TypeId} {fr : Nat × Nat} (r : CellsR P η q c et rw opn cs elem fr)
    {off n : Nat} {l : List AV} (h : takeN c off n = some l) : q.ba + off + n ≤ cs.size ∨ n = 0 := by
  obtain ⟨_, _, h1⟩ := takeN_some h
  have := r.fits; have := r.le
  omega

theorem CellsR.takeVRs {q : Place} {c : List AV} {et : TypeId} {rw opn : Bool} {cs : Array Value} {elem : TypeId} {fr : Nat × Nat} (r : CellsR P η q c et rw opn cs elem fr)
    {off n : Nat} {l : List AV} (h : takeN c off n = some l) : VRs η l ((cs.toList.drop (q.ba + off)).take n) := by
  obtain ⟨hl, hlen, h1⟩ := takeN_some h
  have h2 := r.fits; have h3 := r.le
  refine VRs.of ?_ fun k a hk => ?_
  · simp; omega
  · have h4 := takeN_at h hk
    obtain ⟨x, hx, hv⟩ := r.cell _ _ h4
    refine ⟨x, ?_, hv⟩
    have hkn : k < n := by have := (List.getElem?_eq_some_iff.1 hk).1; omega
    rw [List.getElem?_take, if_pos hkn, List.getElem?_drop]
    rw [← Nat.add_assoc] at hx
    simpa using hx

theorem run_loadCells' {bl off n : Nat} {cs : Array Value} {elem : TypeId} {fr : Nat × Nat} (h : w.heap[bl]? = some (.cells cs elem fr)) (hle : off + n ≤ cs.size ∨ n = 0) :
    (loadCells ⟨bl, off, none⟩ n).run P w = .ok ⟨(cs.toList.drop off).take n⟩ w := by
  rcases hle with h1 | rfl
  · exact run_loadCells h h1
  · simp [loadCells, loadCellsFrom]

/-- A load. -/
theorem load_ok (h : SR P η σ w) {t : TypeId} {a v : AV} {x : Value} (ha : aLoad P t σ a = some v) (hx : VR η a x) :
    ∃ y, (Instr.loadAt t x).run P w = .ok y w ∧ VR η v y := by
  unfold aLoad at ha
  split at ha
  · next id off =>
    split at ha
    · next c et rw opn hg =>
      obtain ⟨q, hq, cs, elem, fr, hb, r⟩ := h.obj _ _ hg
      simp only [VR] at hx
      obtain ⟨q', hq', rfl⟩ := hx
      rw [hq] at hq'; cases hq'
      split at ha
      · next hagg =>
        split at ha
        · next n hn =>
          simp only [Option.map_eq_some_iff] at ha
          obtain ⟨l, hl, rfl⟩ := ha
          refine ⟨.agg ⟨(cs.toList.drop (q.ba + off)).take n⟩, ?_, ?_⟩
          · simp only [Instr.loadAt, Instr.sureAddr, Sem.run_bind, Sem.run_pure, Result.andThen_ok, loadVar, run_isAgg hagg, if_true, run_size hn, Sem.run_ite]
            rw [run_loadCells' hb (r.take hl)]; rfl
          · simp only [VR]; exact ⟨_, rfl, r.takeVRs hl⟩
        · cases ha
      · next hagg =>
        obtain ⟨x, hx, hv⟩ := r.cell _ _ ha
        refine ⟨x, ?_, hv⟩
        simp only [Instr.loadAt, Instr.sureAddr, Sem.run_bind, Sem.run_pure, Result.andThen_ok, loadVar, run_isAgg hagg, Sem.run_ite]
        exact run_load1 hb hx
      · cases ha
    · cases ha
  · next e off =>
    simp only [VR] at hx
    obtain ⟨bl, base, cs, elem, fr, x, h1, h2, rfl, h3, h4⟩ := hx
    have hb := h.roAt _ _ h1
    have hcv := cells_VRs h2
    have hcl := cells_length h2
    split at ha
    · next hagg =>
      split at ha
      · next n hn =>
        simp only [Option.map_eq_some_iff] at ha
        obtain ⟨l, hl, rfl⟩ := ha
        obtain ⟨hl1, hl2, hl3⟩ := takeN_some hl
        have hfit : base + off + n ≤ cs.size ∨ n = 0 := by omega
        refine ⟨.agg ⟨(cs.toList.drop (base + off)).take n⟩, ?_, ?_⟩
        · simp only [Instr.loadAt, Instr.sureAddr, Sem.run_bind, Sem.run_pure, Result.andThen_ok, loadVar, run_isAgg hagg, if_true, run_size hn, Sem.run_ite]
          rw [run_loadCells' hb hfit]; rfl
        · simp only [VR]
          refine ⟨_, rfl, ?_⟩
          have heq : (cs.toList.drop (base + off)).take n = (x.cells.toList.drop off).take n := by
            apply List.ext_getElem?
            intro k
            rw [List.getElem?_take, List.getElem?_take]
            split
            · next hk =>
              rw [List.getElem?_drop, List.getElem?_drop]
              have hlt : off + k < x.cells.toList.length := by simp; omega
              have := h4 (off + k) _ (List.getElem?_eq_getElem hlt)
              rw [List.getElem?_eq_getElem hlt, Array.getElem?_toList, Nat.add_assoc]
              exact this
            · rfl
          rw [heq, hl1]
          exact (hcv.drop off).take n
      · cases ha
    · next hagg =>
      obtain ⟨y, hy, hv⟩ := hcv.at ha
      refine ⟨y, ?_, hv⟩
      simp only [Instr.loadAt, Instr.sureAddr, Sem.run_bind, Sem.run_pure, Result.andThen_ok, loadVar, run_isAgg hagg, Sem.run_ite]
      exact run_load1 hb (h4 off y hy)
    · cases ha
  · cases ha

theorem setRange_some {l l' vs : List AV} {off : Nat} (h : setRange l off vs = some l') : off + vs.length ≤ l.length ∧ l'.length = l.length ∧
    ∀ (k : Nat), l'[k]? = if off ≤ k ∧ k < off + vs.length then vs[k - off]? else l[k]? := by
  unfold setRange at h
  split at h
  · next h1 =>
    cases h
    refine ⟨h1, by simp; omega, fun k => ?_⟩
    by_cases h2 : k < off
    · rw [if_neg (by omega), List.append_assoc, List.getElem?_append_left (by simp; omega), List.getElem?_take, if_pos h2]
    · by_cases h3 : k < off + vs.length
      · rw [if_pos ⟨by omega, h3⟩, List.getElem?_append_left (by simp; omega), List.getElem?_append_right (by simp; omega)]
        simp; congr 1; omega
      · rw [if_neg (by omega), List.getElem?_append_right (by simp; omega), List.getElem?_drop]
        congr 1; simp; omega
  · cases h

/-- A write of cells into a block of our own. -/
theorem write_ok (h : SR P η σ w) {id off : Nat} {c c' : List AV} {et : TypeId} {opn : Bool} {vs : List AV} {xs : List Value} {q : Place} (hg : σ.get id = some (.cells c et true opn)) (hl : σ.lock ≤ id)
    (hq : η id = some q) (hs : setRange c off vs = some c') (hv : VRs η vs xs) (hone : vs.all AV.isAddrOrScalar = true) :
    ∃ w', (storeCells ⟨q.bl, q.ba + off, none⟩ xs).run P w = .ok () w' ∧ St P η σ w η (σ.put id (.cells c' et true opn)) w' := by
  obtain ⟨q', hq', cs, elem, fr, hb, r⟩ := h.obj _ _ hg
  rw [hq] at hq'; cases hq'
  obtain ⟨h1, h2, h3⟩ := setRange_some hs
  have hlen := hv.length
  have hf := r.fits; have hle := r.le
  have hxs : ∀ x ∈ xs, oneC x = true := by
    intro x hx
    obtain ⟨k, hk⟩ := List.mem_iff_getElem?.1 hx
    have hlt : k < vs.length := by have := (List.getElem?_eq_some_iff.1 hk).1; omega
    obtain ⟨y, hy, hvy⟩ := hv.at (List.getElem?_eq_getElem hlt)
    rw [hk] at hy; cases hy
    exact oneC_of hvy (List.all_eq_true.1 hone _ (List.getElem_mem hlt))
  have hrun := run_storeCells (P := P) xs w q.bl (q.ba + off) 0 cs elem fr hb (by omega) hxs (fun k a b => by
    have := r.free rfl (k - q.ba) (by omega)
    rw [Nat.add_sub_cancel' (by omega)] at this; exact this)
  refine ⟨_, hrun, ?_⟩
  refine St.write h hg rfl hl hq setBlk_size (fun k hk => setBlk_ne hk) rfl rfl rfl ?_
  refine ⟨_, elem, fr, setBlk_at hb, ?_⟩
  refine { fits := by rw [setFrom_size]; exact hf, le := by omega, shut := fun e => by rw [h2]; exact r.shut e, cell := ?_, free := fun e => r.free e, whole := fun e => by rw [setFrom_size]; exact r.whole e, room := r.room }
  intro k a hk
  rw [h3] at hk
  rw [setFrom_get _ _ _ _ (by omega)]
  split at hk
  · next h4 =>
    rw [if_pos (by omega)]
    obtain ⟨x, hx, hvx⟩ := hv.at hk
    refine ⟨x, ?_, hvx⟩
    rw [← hx]; congr 1; omega
  · next h4 =>
    rw [if_neg (by omega)]
    exact r.cell k a hk

/-- A store. -/
theorem store_ok (h : SR P η σ w) {t : TypeId} {a v : AV} {x y : Value} (hs : aStore P t σ a v = some σ') (hx : VR η a x) (hy : VR η v y) :
    ∃ w', (Instr.storeAt t x y).run P w = .ok () w' ∧ St P η σ w η σ' w' := by
  unfold aStore at hs
  split at hs
  · next id off =>
    split at hs
    · next c et opn hg =>
      split at hs
      · next hc =>
        obtain ⟨hl, hsz, hone⟩ := hc
        simp only [Option.map_eq_some_iff] at hs
        obtain ⟨c', hr, rfl⟩ := hs
        simp only [VR] at hx
        obtain ⟨q, hq, rfl⟩ := hx
        have hcells := cells_VRs hy
        obtain ⟨w', hrun, hst⟩ := write_ok h hg hl hq hr hcells hone
        refine ⟨w', ?_, hst⟩
        have hlen := hcells.length
        simp only [Instr.storeAt, Instr.sureAddr, Sem.run_bind, Sem.run_pure, Result.andThen_ok, storeVar, run_size hsz, Sem.run_ite]
        rw [if_neg (by simp at hlen ⊢; omega)]
        simpa using hrun
      · cases hs
    · cases hs
  · cases hs

end
end Go.Abs
