/- Slices that are made, appended to and copied into. -/
import Derived.Test.YtehcokoigbiciaaGreatDoorAbsB
import Derived.Deep.AppendSrc
import Derived.Laws.IdiomCopy
import Derived.Lib.UnsafeStr

/-! # AbsOps7 -/
namespace Go.Abs
noncomputable section
variable [TabsOf]
set_option linter.unusedSectionVars false
set_option linter.unusedVariables false
set_option linter.unusedSimpArgs false
variable {P : Program} {η : Env} {σ σ' : ASt} {w : World}

theorem new_sl {q : Place} {id len : Nat} {cap : Option Nat} (h0 : q.ba = 0) (hc : len ≤ cap.getD (q.sz / q.es)) : VR (η.put id q) (.sl id 0 len cap) (.slice (some ⟨q.bl, 0, none⟩) len (cap.getD (q.sz / q.es))) := by
  simp only [VR]; exact ⟨q, by simp [Env.put], by simpa using hc, by simp [h0]⟩

theorem buildSlice_ok (h : SR P η σ w) {t e : TypeId} {size bytes len : Nat} {z : List AV} {ps : List (Nat × AV)} {qs : Array (Nat × Value)} {cs : List AV} (hi : elemInfo P t = some (e, size, bytes, z))
    (hlen : ¬ len * size > 2 ^ 24) (hf : aFill (fun i => some (i * size, size)) (if len * size = 0 then [] else repl len z) ps = some cs) (hp : PRs η ps qs.toList) :
    ∃ y w' η', (Instr.buildSlice t len qs).run P w = .ok y w' ∧ St P η σ w η' (σ.new (.cells cs e true false)) w' ∧ VR η' (.sl σ.next 0 len (some len)) y := by
  obtain ⟨hu, _, hz, he, hzl, hn⟩ := elemInfo_some hi
  obtain ⟨zv, hzr, hzv⟩ := run_zero hz
  by_cases h0 : len * size = 0
  · simp only [h0, if_true] at hf
    obtain ⟨xs, hfill, hxs⟩ := fill_ok (cs := #[]) hf hp (by simp [VRs])
    have hl := hxs.length
    refine ⟨_, _, _, ?_, cells_new h (xs := xs) (es := 0) (opn := false) ?_ (by simpa using Nat.le_of_eq hl) (fun _ => by simpa using hl) (by simp), new_sl (cap := some len) rfl (by simp)⟩
    · have hr0 : Array.range 0 = #[] := rfl
      have hg : ¬ (0 > 2 ^ 24) := by omega
      simp only [Instr.buildSlice, Sem.run_bind, run_under hu, Result.andThen_ok, run_size hn, Sem.run_ite, h0, if_neg hg, if_true, Sem.run_pure, hr0, Array.map_empty, hfill, newRow, newObj, Sem.run]
      rfl
    · rw [hl, List.take_length]; exact hxs
  · simp only [h0, if_false] at hf
    obtain ⟨xs, hfill, hxs⟩ := fill_ok hf hp (zeros_VRs (hzv η) hzl)
    have hl := hxs.length
    refine ⟨_, _, _, ?_, cells_new h (xs := xs) (es := 0) (opn := false) ?_ (by simpa using Nat.le_of_eq hl) (fun _ => by simpa using hl) (by simp), new_sl (cap := some len) rfl (by simp)⟩
    · simp only [Instr.buildSlice, Sem.run_bind, run_under hu, Result.andThen_ok, run_size hn, Sem.run_ite, if_neg hlen, h0, if_false, hzr, Sem.run_pure, hfill, newRow, newObj, Sem.run]
      rfl
    · rw [hl, List.take_length]; exact hxs

/-! ### append -/
theorem growBy_le (m : Nat) : ∀ (r c : Nat), c ≤ m + (m + 768) / 4 → Builtin.growBy m r c ≤ m + (m + 768) / 4
  | 0, c, h => by simpa [Builtin.growBy] using h
  | r + 1, c, h => by
    unfold Builtin.growBy
    split
    · exact h
    · next h1 => exact growBy_le m r _ (by omega)

theorem nextcap_le {need cap : Nat} (h : cap < need) : Builtin.nextslicecap need cap ≤ 2 * need + 2000 := by
  unfold Builtin.nextslicecap
  split
  · omega
  · split
    · omega
    · have := growBy_le need 4 cap (by omega); omega

theorem byteAVs_VRs (s : List UInt8) : VRs η (byteAVs s) (s.map fun b => .int .u8 b.toNat) := by
  induction s with
  | nil => simp [byteAVs, VRs]
  | cons c s ih => exact VRs.cons (by simp [VR]) ih

theorem srcCells_ok (h : SR P η σ w) {size n : Nat} {a : AV} {l : List AV} {x : Value} (hs : srcCells σ size a = some (n, l)) (hx : VR η a x) :
    l.length = n * size ∧ (∀ w' : World, (Builtin.lenOf x).run P w' = .ok n w') ∧ ∀ k, k ≤ n → ∃ ys, (∀ w' : World, w'.heap = w.heap → (Builtin.firstCells size k x).run P w' = .ok ⟨ys⟩ w') ∧ VRs η (l.take (k * size)) ys := by
  unfold srcCells at hs
  split at hs
  · cases hs
    simp only [VR] at hx; subst hx
    refine ⟨by simp, fun _ => rfl, fun k hk => ⟨[], fun _ _ => ?_, by simp [VRs]⟩⟩
    simp [Builtin.firstCells]
  · next id off len cap =>
    simp only [VR] at hx
    obtain ⟨q, hq, _, rfl⟩ := hx
    split at hs
    · next c et rw opn hg =>
      simp only [Option.map_eq_some_iff] at hs
      obtain ⟨r, hr, e⟩ := hs
      cases e
      obtain ⟨q', hq', cs, elem, fr, hb, rr⟩ := h.obj _ _ hg rfl
      rw [hq] at hq'; cases hq'
      have hfull := rr.takeVRs hr
      obtain ⟨hr1, hr2, hr3⟩ := takeN_some hr
      refine ⟨hr2, fun _ => rfl, fun k hk => ⟨((cs.toList.drop (q.ba + off)).take (n * size)).take (k * size), fun w' hw => ?_, hfull.take _⟩⟩
      have hks : k * size ≤ n * size := Nat.mul_le_mul_right _ hk
      rw [List.take_take, Nat.min_eq_left hks]
      have hfit := rr.fits; have hle := rr.le
      simp only [Builtin.firstCells]
      exact run_loadCells' (by rw [hw]; exact hb) (by omega)
    · cases hs
  · next s =>
    split at hs
    · next e1 =>
      cases hs
      simp only [VR] at hx; subst hx
      refine ⟨by simp [byteAVs, e1], fun _ => rfl, fun k hk => ⟨(s.take k).map fun b => .int .u8 b.toNat, fun _ _ => ?_, ?_⟩⟩
      · simp only [Builtin.firstCells, strExtract, Sem.run_pure]
        simp
      · rw [e1, Nat.mul_one]
        have := byteAVs_VRs (η := η) (s.take k)
        simpa [byteAVs, List.map_take] using this
    · cases hs
  · next es =>
    split at hs
    · next hall =>
      cases hs
      simp only [VR] at hx
      rcases hx with ⟨rfl, pa, rfl⟩ | ⟨bl, off, c, xs, sz, rfl, hc, h1, h2, h3⟩
      · refine ⟨by simp, fun _ => by cases pa <;> rfl, fun k hk => ⟨[], fun _ _ => ?_, by simp [VRs]⟩⟩
        have hk0 : k = 0 := by simpa using hk
        subst hk0
        cases pa <;> simp [Builtin.firstCells, loadCells, loadCellsFrom]
      have hsz := all_size h1 hall
      have hfl := flat_VRs h1
      have hlen := cellsL_length hsz
      have hl1 := h1.length
      have hl2 := hfl.length
      refine ⟨by rw [hl2, hlen, hl1], fun _ => rfl, fun k hk => ⟨(cellsL xs).take (k * size), fun w' hw => ?_, hfl.take _⟩⟩
      simp only [Builtin.firstCells]
      by_cases hn : es = []
      · subst hn
        simp at hl1
        have : xs = [] := List.eq_nil_of_length_eq_zero hl1.symm
        subst this
        simp at hk
        subst hk
        simp [loadCells, loadCellsFrom, cellsL]
      · obtain ⟨cs, elem, fr, h4, h5, h6⟩ := h3 hn
        have hks : k * size ≤ xs.length * size := Nat.mul_le_mul_right _ (by omega)
        rw [run_loadCells' (by rw [hw]; exact h.roAt _ _ h4) (by omega)]
        congr 2
        apply List.ext_getElem?
        intro j
        rw [List.getElem?_take, List.getElem?_take]
        split
        · next hj =>
          have hlt : j < (cellsL xs).length := by omega
          rw [List.getElem?_drop, List.getElem?_eq_getElem hlt, Array.getElem?_toList]
          exact h6 j _ (List.getElem?_eq_getElem hlt)
        · rfl
    · cases hs
  · cases hs

theorem zeroCells_length (zero : Array Value) (n : Nat) : (Builtin.zeroCells zero n).size = n * zero.size := by simp [Builtin.zeroCells]

theorem isSrc_ok {t : TypeId} (h : isSrcT P t = true) : (∃ e', P.underlying t = some (.slice e')) ∨ P.underlying t = some .string := by
  unfold isSrcT at h
  split at h
  · next e hu => exact .inl ⟨e, hu⟩
  · next hu => exact .inr hu
  · cases h

theorem oneC_eq (v : Value) : v.oneCell' = oneC v := by cases v <;> rfl

theorem all_one {l : List AV} {xs : List Value} (hv : VRs η l xs) (hone : l.all AV.isAddrOrScalar = true) : ∀ x ∈ xs, oneC x = true := by
  intro x hx
  have hlen := hv.length
  obtain ⟨k, hk⟩ := List.mem_iff_getElem?.1 hx
  have hlt : k < l.length := by have := (List.getElem?_eq_some_iff.1 hk).1; omega
  obtain ⟨y, hy, hvy⟩ := hv.at (List.getElem?_eq_getElem hlt)
  rw [hk] at hy; cases hy
  exact oneC_of hvy (List.all_eq_true.1 hone _ (List.getElem_mem hlt))

/-- What the second argument of an append yields. -/
theorem src_ok (h : SR P η σ w) {size n : Nat} {a : AV} {l : List AV} {x : Value} {t1 : TypeId} (ht : isSrcT P t1 = true) (hs : srcCells σ size a = some (n, l)) (hx : VR η a x) (hone : l.all AV.isAddrOrScalar = true) :
    ∃ ys, Src P size t1 x n ys w ∧ VRs η l ys := by
  obtain ⟨h1, h2, h3⟩ := srcCells_ok h hs hx
  obtain ⟨ys, h4, h5⟩ := h3 n (Nat.le_refl _)
  have hl : l.take (n * size) = l := List.take_of_length_le (by omega)
  rw [hl] at h5
  have hlen := h5.length
  exact ⟨ys, ⟨isSrc_ok ht, h2, h4 w rfl, h4 w.drew rfl, by rw [← hlen, h1], fun u hu => by rw [oneC_eq]; exact all_one h5 hone u hu⟩, h5⟩

theorem setCells_nil (w : World) (b o : Nat) : w.setCells b o [] = w := rfl

theorem zeroT_some {e : TypeId} {z : List AV} (h : zeroCellsOf P e = some z) : ∃ i zv, P.info? e = some i ∧ i.zero = some zv ∧ ∀ η : Env, VRs η z zv.cells.toList := by
  unfold zeroCellsOf at h
  split at h
  · next i hi =>
    split at h
    · next zv hz =>
      simp only [Option.map_eq_some_iff] at h
      obtain ⟨a, ha, rfl⟩ := h
      exact ⟨i, zv, hi, hz, fun η => cells_VRs (ofVal_VR _ _ _ ha)⟩
    · cases h
  · cases h

/-- The arm that grows. -/
theorem grow_ok (h : SR P η σ w) {t t1 ty e : TypeId} {size bytes n sLen sCap : Nat} {z new old : List AV} {ys os : List Value} {base : Option Addr} {x : Value}
    (hi : elemInfo P t = some (e, size, bytes, z)) (hsrc : Src P size t1 x n ys w) (hys : VRs η new ys) (hold : (Builtin.firstCells size sLen (.slice base sLen sCap)).run P w.drew = .ok ⟨os⟩ w.drew) (hos : VRs η old os)
    (hol : old.length = sLen * size) (hnl : new.length = n * size) (hs0 : size ≠ 0) (hg : sCap < sLen + n) (hb1 : (2 * (sLen + n) + 2000) * bytes ≤ 2 ^ 48 ∨ (2 * (sLen + n)) * bytes ≤ 2 ^ 48) (hb2 : sLen + n ≤ 2 ^ 48) :
    ∃ y w' η', (Builtin.append_ #[t, t1] ty #[.slice base sLen sCap, x]).run P w = .ok y w' ∧ St P η σ w η' (σ.new (.cells (old ++ new) e true true)) w' ∧ VR η' (.sl σ.next 0 (sLen + n) none) y := by
  obtain ⟨hu, ⟨i, hinf, hsz, hby⟩, hz, he, hzl, hn⟩ := elemInfo_some hi
  obtain ⟨i', zv, hinf', hzv, hzr⟩ := zeroT_some hz
  rw [hinf] at hinf'; cases hinf'
  subst hsz
  subst hby
  have hcap := grownCap_ge w (sLen + n) sCap e
  have hfit : Builtin.nextslicecap (sLen + n) sCap * i.bytes ≤ 281474976710656 := by
    have h1 := nextslicecap_le hg
    have h2 : Builtin.nextslicecap (sLen + n) sCap * i.bytes ≤ (2 * (sLen + n)) * i.bytes := Nat.mul_le_mul_right _ h1
    rcases hb1 with h3 | h3
    · have : (2 * (sLen + n)) * i.bytes ≤ (2 * (sLen + n) + 2000) * i.bytes := Nat.mul_le_mul_right _ (by omega)
      omega
    · omega
  have hrun := run_append_grow_src w t t1 ty e i zv hu hinf hzv base sLen sCap os hold x n ys hsrc hg (by omega) hfit
  have hzs : zv.cells.size = i.size := by have := (hzr η).length; simp only [Array.length_toList] at this; omega
  have hst := cells_new h.drew (c := old ++ new) (xs := (os ++ ys).toArray ++ Builtin.zeroCells zv.cells (grownCap w (sLen + n) sCap e - (sLen + n))) (elem := e) (opn := true) (es := i.size) ?_ ?_ (by simp) (fun _ => ⟨he, by omega, hn⟩)
  · have hsz : ((os ++ ys).toArray ++ Builtin.zeroCells zv.cells (grownCap w (sLen + n) sCap e - (sLen + n))).size = grownCap w (sLen + n) sCap e * i.size := by
      have h1 := hos.length; have h2 := hys.length
      simp only [Array.size_append, zeroCells_length, List.size_toArray, List.length_append, hzs]
      rw [← h1, ← h2, hol, hnl, ← Nat.add_mul, ← Nat.add_mul]
      congr 1; omega
    refine ⟨_, _, _, hrun, (St.drew h).trans hst, ?_⟩
    rw [hsz]
    have hdiv : grownCap w (sLen + n) sCap e * i.size / i.size = grownCap w (sLen + n) sCap e := Nat.mul_div_cancel _ (by omega)
    have := new_sl (q := ⟨w.heap.size, 0, grownCap w (sLen + n) sCap e * i.size, i.size⟩) (η := η) (id := σ.next) (len := sLen + n) (cap := none) rfl (by simp only [Option.getD_none, hdiv]; exact hcap)
    simp only [Option.getD_none, hdiv] at this
    exact this
  · have h3 := hos.append hys
    have h4 := h3.length
    rw [Array.toList_append, List.take_append_of_le_length (by simp only [List.toList_toArray]; omega), List.take_of_length_le (by simp only [List.toList_toArray]; omega)]
    simpa using h3
  · have h3 := (hos.append hys).length
    simp only [Array.size_append, List.size_toArray]; omega

end
end Go.Abs

/-! # AbsOps8 -/
namespace Go.Abs
noncomputable section
variable [TabsOf]
set_option linter.unusedSectionVars false
set_option linter.unusedVariables false
set_option linter.unusedSimpArgs false
variable {P : Program} {η : Env} {σ σ' : ASt} {w : World}

theorem arr2 {α : Type} {ts : Array α} {a b : α} (h : ts.toList = [a, b]) : ts = #[a, b] := by
  cases ts; simp at h; subst h; rfl

theorem storeCells_setCells {bl off : Nat} {xs : List Value} {w' : World} {cs : Array Value} {elem : TypeId} {fr : Nat × Nat} (hb : w.heap[bl]? = some (.cells cs elem fr)) (hfit : off + xs.length ≤ cs.size)
    (hfr : ∀ k, off ≤ k → k < off + xs.length → ¬ (fr.1 ≤ k ∧ k < fr.2)) (hone : ∀ x ∈ xs, oneC x = true) (h : (storeCells ⟨bl, off, none⟩ xs).run P w = .ok () w') :
    (∀ j, j < xs.length → (w.cell? ⟨bl, off + j, none⟩).isSome = true) ∧ (∀ j, j < xs.length → w.frozen? ⟨bl, off + j, none⟩ = false) ∧ w.setCells bl off xs = w' := by
  have h1 : ∀ j, j < xs.length → (w.cell? ⟨bl, off + j, none⟩).isSome = true := fun j hj => by
    rw [cell_eq hb]
    have : off + j < cs.size := by omega
    simp [this]
  have h2 : ∀ j, j < xs.length → w.frozen? ⟨bl, off + j, none⟩ = false := fun j hj => by
    rw [frozen_eq hb]; have := hfr (off + j) (by omega) (by omega); simpa using this
  refine ⟨h1, h2, ?_⟩
  have h3 := run_storeCells_cells (P := P) bl off xs 0 w (by simpa using h1) (by simpa using h2) (fun v hv => by rw [oneC_eq]; exact hone v hv)
  rw [h] at h3
  simp only [Nat.add_zero, Result.ok.injEq] at h3
  exact h3.2.symm

theorem append_none {t t1 ty e : TypeId} {size : Nat} {x : Value} {p : Option Addr} (hu : P.underlying t = some (.slice e)) (hn : sizeT P e = some size) (hsrc : Src P size t1 x 0 [] w) :
    (Builtin.append_ #[t, t1] ty #[.slice p 0 0, x]).run P w = .ok (.slice p 0 0) w := by
  have hc := hsrc.cells
  cases p <;> rcases hsrc.kind with ⟨e', hk⟩ | hk <;> simp [Builtin.append_, run_under hu, run_under hk, run_size hn, hsrc.len, hc, storeCells]

set_option maxHeartbeats 1000000 in
theorem appTo_ok (h : SR P η σ w) {t t1 e size bytes : Nat} {z : List AV} {ty : TypeId} {s v : AV} {u u' : Value} {n : Nat} {new : List AV} {ys : List Value} (hi : elemInfo P t = some (e, size, bytes, z)) (hS : Src P size t1 u' n ys w) (hys : VRs η new ys) (hnl : new.length = n * size)
    (hs : aAppTo e size bytes s n new σ = some (v, σ')) (hu : VR η s u) :
    ∃ y w' η', (Builtin.append_ #[t, t1] ty #[u, u']).run P w = .ok y w' ∧ St P η σ w η' σ' w' ∧ VR η' v y := by
  unfold aAppTo at hs
  split at hs
  · cases hs
  · next hc =>
    simp only [not_or, Decidable.not_not, Bool.not_eq_false] at hc
    obtain ⟨h0, hone, hb1, hb2⟩ := hc
    obtain ⟨hut, ⟨i, hinf, hsz, hby⟩, hz, he, hzl, hn⟩ := elemInfo_some hi
    have hyl := hys.length
    split at hs
    · -- nil
      simp only [VR] at hu; subst hu
      simp only [sliceLen] at hb1 hb2
      split at hs
      · next hn0 =>
        cases hs; subst hn0
        have : ys = [] := by apply List.eq_nil_of_length_eq_zero; omega
        subst this
        exact ⟨_, w, η, append_none hut hn hS, St.refl h, by simp [VR]⟩
      · next hn0 =>
        cases hs
        have := grow_ok (ty := ty) (old := []) (os := []) (sLen := 0) (sCap := 0) (base := none) h hi hS hys (by simp [Builtin.firstCells]) (by simp [VRs]) (by simp) hnl h0 (by omega) (.inr (by simpa using hb1)) (by omega)
        simpa using this
    · -- a capacity that is known
      next id off len cap =>
      simp only [VR] at hu
      obtain ⟨q, hq, hle, rfl⟩ := hu
      simp only [Option.getD_some] at hle ⊢
      simp only [sliceLen] at hb1 hb2
      split at hs
      · next hroom =>
        split at hs
        · next hn0 =>
          cases hs; subst hn0
          have : ys = [] := by apply List.eq_nil_of_length_eq_zero; omega
          subst this
          subst hsz
          have := run_append_room_src w t t1 ty e i hut hinf q.bl (q.ba + off) len cap u' 0 [] hS hroom (by simp) (by simp)
          exact ⟨_, w, η, by simpa [setCells_nil] using this, St.refl h, by simp only [VR]; exact ⟨q, hq, by simpa using hle, rfl⟩⟩
        · split at hs
          · next c et opn hg =>
            split at hs
            · next hl =>
              simp only [Option.map_eq_some_iff] at hs
              obtain ⟨c', hr, e1⟩ := hs
              cases e1
              obtain ⟨w', hrun, hst⟩ := write_ok h hg hl hq hr hys hone
              obtain ⟨q', hq', cs, elem, fr, hb, rr⟩ := h.obj _ _ hg rfl
              rw [hq] at hq'; cases hq'
              obtain ⟨h5, _, _⟩ := setRange_some hr
              have hfit := rr.fits; have hle2 := rr.le
              obtain ⟨h6, h7, h8⟩ := storeCells_setCells (bl := q.bl) (off := q.ba + (off + len * size)) hb (by omega) (fun k a b => by
                have := rr.free rfl (k - q.ba) (by omega)
                rw [Nat.add_sub_cancel' (by omega)] at this; exact this) (all_one hys hone) hrun
              subst hsz
              have := run_append_room_src w t t1 ty e i hut hinf q.bl (q.ba + off) len cap u' n ys hS hroom (by simpa [Nat.add_assoc] using h6) (by simpa [Nat.add_assoc] using h7)
              rw [Nat.add_assoc, h8] at this
              exact ⟨_, w', η, this, hst, by simp only [VR]; exact ⟨q, hq, by simpa using hroom, rfl⟩⟩
            · cases hs
          · cases hs
      · next hroom =>
        split at hs
        · next c et rw opn hg =>
          simp only [Option.map_eq_some_iff] at hs
          obtain ⟨old, ho, e1⟩ := hs
          cases e1
          obtain ⟨q', hq', cs, elem, fr, hb, rr⟩ := h.obj _ _ hg rfl
          rw [hq] at hq'; cases hq'
          have hov := rr.takeVRs ho
          have hol := (takeN_some ho).2.1
          exact grow_ok (ty := ty) h hi hS hys (by simp only [Builtin.firstCells]; exact run_loadCells' hb (rr.take ho)) hov hol hnl h0 (by omega) (.inr hb1) hb2
        · cases hs
    · -- a capacity that is not known
      next id off len =>
      simp only [VR] at hu
      obtain ⟨q, hq, hle, rfl⟩ := hu
      simp only [Option.getD_none] at hle ⊢
      simp only [sliceLen] at hb1 hb2
      split at hs
      · next hn0 =>
        cases hs; subst hn0
        have : ys = [] := by apply List.eq_nil_of_length_eq_zero; omega
        subst this
        subst hsz
        have := run_append_room_src w t t1 ty e i hut hinf q.bl (q.ba + off) len ((q.sz - off) / q.es) u' 0 [] hS (by simpa using hle) (by simp) (by simp)
        exact ⟨_, w, η, by simpa [setCells_nil] using this, St.refl h, by simp only [VR]; exact ⟨q, hq, by simpa using hle, rfl⟩⟩
      · next hn0 =>
        split at hs
        · next hl =>
          split at hs
          · next c et hg =>
            split at hs
            · next het =>
              simp only [Option.map_eq_some_iff] at hs
              obtain ⟨old, ho, e1⟩ := hs
              cases e1
              subst het
              obtain ⟨q', hq', cs, elem, fr, hb, rr⟩ := h.obj _ _ hg rfl
              rw [hq] at hq'; cases hq'
              obtain ⟨_, hes, hsz2⟩ := rr.room rfl
              rw [hn] at hsz2; cases hsz2
              have hov := rr.takeVRs ho
              obtain ⟨ho1, hol, ho3⟩ := takeN_some ho
              have hfit := rr.fits; have hle2 := rr.le
              by_cases hroom : len + n ≤ (q.sz - off) / q.es
              · -- in place
                have hcap : (len + n) * q.es ≤ q.sz - off := Nat.le_trans (Nat.mul_le_mul_right _ hroom) (Nat.div_mul_le_self _ _)
                have hnpos : 0 < n * q.es := Nat.mul_pos (by omega) hes
                rw [Nat.add_mul] at hcap
                have hrun := run_storeCells (P := P) ys w q.bl (q.ba + (off + len * q.es)) 0 cs elem fr hb (by omega) (all_one hys hone) (fun k a b => by
                  have := rr.free rfl (k - q.ba) (by omega)
                  rw [Nat.add_sub_cancel' (by omega)] at this; exact this)
                obtain ⟨h6, h7, h8⟩ := storeCells_setCells (bl := q.bl) (off := q.ba + (off + len * q.es)) hb (by omega) (fun k a b => by
                  have := rr.free rfl (k - q.ba) (by omega)
                  rw [Nat.add_sub_cancel' (by omega)] at this; exact this) (all_one hys hone) hrun
                have hr := run_append_room_src w t t1 ty _ i hut hinf q.bl (q.ba + off) len ((q.sz - off) / q.es) u' n ys (by rw [hsz]; exact hS) hroom (by rw [hsz]; simpa [Nat.add_assoc] using h6) (by rw [hsz]; simpa [Nat.add_assoc] using h7)
                rw [hsz, Nat.add_assoc, h8] at hr
                refine ⟨_, _, _, hr, St.again (q' := ⟨q.bl, q.ba + off, q.sz - off, q.es⟩) h hg rfl hl hq rfl setBlk_size (fun k hk => setBlk_ne hk) rfl rfl rfl ?_, ?_⟩
                · refine ⟨_, elem, fr, setBlk_at hb, ?_⟩
                  have hmono := Env.put_le h ⟨q.bl, q.ba + off, q.sz - off, q.es⟩
                  refine { fits := by rw [setFrom_size]; show q.ba + off + (q.sz - off) ≤ cs.size; omega, le := by show (old ++ new).length ≤ q.sz - off; rw [List.length_append, hol, hnl]; omega, shut := by simp, cell := ?_, free := ?_, whole := ?_, room := fun _ => ⟨he, hes, hn⟩ }
                  · intro k a hk
                    show ∃ x, (setFrom cs (q.ba + (off + len * q.es) + 0) ys)[q.ba + off + k]? = some x ∧ _
                    rw [Nat.add_zero, setFrom_get _ _ _ _ (by omega)]
                    by_cases hlt : k < len * q.es
                    · rw [List.getElem?_append_left (by omega)] at hk
                      obtain ⟨x1, hx1, hv1⟩ := rr.cell _ _ (takeN_at ho hk)
                      rw [if_neg (by omega)]
                      exact ⟨x1, by rw [← hx1]; congr 1; omega, VR.mono hmono _ _ hv1⟩
                    · rw [List.getElem?_append_right (by omega)] at hk
                      obtain ⟨x1, hx1, hv1⟩ := hys.at hk
                      have hkl : k - old.length < new.length := (List.getElem?_eq_some_iff.1 hk).1
                      rw [if_pos (by omega)]
                      exact ⟨x1, by rw [← hx1]; congr 1; omega, VR.mono hmono _ _ hv1⟩
                  · intro _ k hk
                    have hk' : k < q.sz - off := hk
                    have := rr.free rfl (off + k) (by omega)
                    show ¬ (fr.1 ≤ q.ba + off + k ∧ q.ba + off + k < fr.2)
                    rw [Nat.add_assoc]; exact this
                  · intro e1
                    obtain ⟨w1, w2, _⟩ := rr.whole e1
                    exact ⟨w1, by rw [setFrom_size]; show q.ba + off + (q.sz - off) = cs.size; omega, by simp⟩
                · simp only [VR]
                  exact ⟨⟨q.bl, q.ba + off, q.sz - off, q.es⟩, by simp [Env.put], by simpa using hroom, by simp⟩
              · -- a new row
                obtain ⟨y, w', η', hr, hst, hv⟩ := grow_ok (ty := ty) (base := some ⟨q.bl, q.ba + off, none⟩) (sLen := len) (sCap := (q.sz - off) / q.es) h hi hS hys (by simp only [Builtin.firstCells]; exact run_loadCells' (w := w.drew) hb (rr.take ho)) hov hol hnl h0 (by omega) (.inr hb1) hb2
                refine ⟨y, w', η', hr, hst.sub ?_ (Nat.le_refl _) rfl, hv⟩
                intro id' o' hid
                rw [ASt.get_new] at hid ⊢
                split at hid
                · next e1 => rw [if_pos (show id' = σ.next from e1)]; exact hid
                · next e1 =>
                  rw [ASt.get_kill] at hid
                  rw [if_neg (show ¬ id' = σ.next from e1)]
                  split at hid
                  · cases hid
                  · exact hid
            · cases hs
          · cases hs
        · cases hs
    · -- elements that nobody changes
      next es =>
      split at hs
      · next hn0 =>
        cases hs; subst hn0
        have hu0 := hu
        simp only [VR] at hu
        have : ys = [] := by apply List.eq_nil_of_length_eq_zero; omega
        subst this
        rcases hu with ⟨rfl, pa, rfl⟩ | ⟨bl, off, c, xs, sz, rfl, hc, _⟩
        · exact ⟨_, w, η, append_none (p := pa) hut hn hS, St.refl h, by simpa using hu0⟩
        subst hsz
        have := run_append_room_src w t t1 ty e i hut hinf bl off es.length c u' 0 [] hS (by simpa using hc) (by simp) (by simp)
        exact ⟨_, w, η, by simpa [setCells_nil] using this, St.refl h, by simpa using hu0⟩
      · cases hs
    · cases hs

theorem append_ok (h : SR P η σ w) {ts : Array TypeId} {ty : TypeId} {s x v : AV} {u u' : Value} (hs : aAppend P ts s x σ = some (v, σ')) (hu : VR η s u) (hx : VR η x u') :
    ∃ y w' η', (Builtin.append_ ts ty #[u, u']).run P w = .ok y w' ∧ St P η σ w η' σ' w' ∧ VR η' v y := by
  unfold aAppend at hs
  split at hs
  · next t t1 hts =>
    have := arr2 hts; subst this
    split at hs
    · next e size bytes z hi hsrcT =>
      split at hs
      · next n new hsrc =>
        have hone : new.all AV.isAddrOrScalar = true := by
          unfold aAppTo at hs
          split at hs
          · cases hs
          · next hc =>
            simp only [not_or, Decidable.not_not, Bool.not_eq_false] at hc
            exact hc.2.1
        obtain ⟨ys, hS, hys⟩ := src_ok h hsrcT hsrc hx hone
        obtain ⟨hnl, _, _⟩ := srcCells_ok h hsrc hx
        exact appTo_ok h hi hS hys hnl hs hu
      · cases hs
    · cases hs
  · cases hs

end
end Go.Abs

/-! # AbsOps9 -/
namespace Go.Abs
noncomputable section
variable [TabsOf]
set_option linter.unusedSectionVars false
set_option linter.unusedVariables false
set_option linter.unusedSimpArgs false
variable {P : Program} {η : Env} {σ σ' : ASt} {w : World}

theorem wrap_id {n : Int} (h0 : 0 ≤ n) (h : n ≤ 2 ^ 60) : IntKind.i64.wrap n = n := Go.IntWalk.i64_in _ (by omega)

theorem makeSlice_ok (h : SR P η σ w) {t : TypeId} {l c v : AV} {x y : Value} (hs : aMakeSlice P t l c σ = some (v, σ')) (hx : VR η l x) (hy : VR η c y) :
    ∃ z w' η', (Instr.makeSlice t x y).run P w = .ok z w' ∧ St P η σ w η' σ' w' ∧ VR η' v z := by
  unfold aMakeSlice at hs
  split at hs
  · next e size bytes z l' c' hi hl hc =>
    split at hs
    · next hb =>
      obtain ⟨b1, b2, b3, b4⟩ := hb
      cases hs
      obtain ⟨kd, rfl⟩ := aInt_VR hl hx
      obtain ⟨kd', rfl⟩ := aInt_VR hc hy
      obtain ⟨hu, ⟨i, hinf, hsz, hby⟩, hz, he, hzl, hn⟩ := elemInfo_some hi
      obtain ⟨zv, hzr, hzv⟩ := run_zero hz
      have wl := wrap_id b1 (by omega : l' ≤ 2 ^ 60)
      have wc := wrap_id (by omega : 0 ≤ c') b4
      subst hby
      have hroom : ∀ w : World, (askRoom (c'.toNat * i.bytes)).run P w = .ok () w := fun w => by
        unfold askRoom; split <;> simp [mark, Sem.run]
      have t1 : (decide (c' < 0) || decide ((i.bytes : Int) * c' > 2 ^ 48)) = false := by simp; omega
      have hc0 : ((c'.toNat : Nat) : Int) = c' := by omega
      by_cases h0 : c'.toNat * size = 0
      · have hcells : (if size = 0 then [] else repl c'.toNat z) = [] := by
          split
          · rfl
          · next hne =>
            have : c'.toNat = 0 := by rcases Nat.mul_eq_zero.1 h0 with e | e; exact e; exact absurd e hne
            rw [this]; rfl
        rw [hcells]
        refine ⟨_, _, _, ?_, cells_new h (c := []) (xs := #[]) (elem := e) (es := 0) (opn := false) (by simp [VRs]) (by simp) (by simp) (by simp), new_sl (len := l'.toNat) (cap := some c'.toNat) rfl (by simp; omega)⟩
        have hr0 : Array.range 0 = #[] := rfl
        simp only [Instr.makeSlice, Sem.run_bind, run_under hu, Result.andThen_ok, asInt, asIntOf, Sem.run_pure, run_info hinf, wl, wc, t1, Bool.false_or, Sem.run_ite, hroom, run_size hn, h0, if_true, newRow, newObj, Sem.run, hr0, Array.map_empty]
        have t2 : (decide (l' < 0) || decide (l' > c')) = false := by simp; omega
        simp only [t2, Bool.false_eq_true, if_false]
        rfl
      · have hcells : (if size = 0 then [] else repl c'.toNat z) = repl c'.toNat z := by
          rw [if_neg]; rintro rfl; simp at h0
        rw [hcells]
        have hV := zeros_VRs (n := c'.toNat) (hzv η) hzl
        have hlen := hV.length
        refine ⟨_, _, _, ?_, cells_new h (c := repl c'.toNat z) (xs := (Array.range (c'.toNat * size)).map (zv.cells[· % zv.cells.size]!)) (elem := e) (es := 0) (opn := false) (by rw [hlen, List.take_length]; exact hV) (by simpa using Nat.le_of_eq hlen) (fun _ => by simpa using hlen) (by simp), new_sl (len := l'.toNat) (cap := some c'.toNat) rfl (by simp; omega)⟩
        simp only [Instr.makeSlice, Sem.run_bind, run_under hu, Result.andThen_ok, asInt, asIntOf, Sem.run_pure, run_info hinf, wl, wc, t1, Bool.false_or, Sem.run_ite, hroom, run_size hn, h0, if_false, hzr, newRow, newObj, Sem.run]
        have t2 : (decide (l' < 0) || decide (l' > c')) = false := by simp; omega
        simp only [t2, Bool.false_eq_true, if_false]
        rfl
    · cases hs
  · cases hs

/-- The slice that 'make' makes. -/
theorem makeSlice_raw {t e : TypeId} {size bytes : Nat} {z : List AV} {kd kd' : IntKind} {l' c' : Int} (hi : elemInfo P t = some (e, size, bytes, z)) (h0 : size ≠ 0) (b1 : 0 ≤ l') (b2 : l' ≤ c') (b3 : bytes * c' ≤ 2 ^ 48) (b4 : c' ≤ 2 ^ 60) :
    ∃ xs : Array Value, (Instr.makeSlice t (.int kd l') (.int kd' c')).run P w = .ok (.slice (some ⟨w.heap.size, 0, none⟩) l'.toNat c'.toNat) { w with heap := w.heap.push (.cells xs e) } ∧ xs.size = c'.toNat * size ∧ VRs η (repl c'.toNat z) xs.toList := by
  obtain ⟨hu, ⟨i, hinf, hsz, hby⟩, hz, he, hzl, hn⟩ := elemInfo_some hi
  obtain ⟨zv, hzr, hzv⟩ := run_zero hz
  have wl := wrap_id b1 (by omega : l' ≤ 2 ^ 60)
  have wc := wrap_id (by omega : 0 ≤ c') b4
  subst hby
  have hroom : ∀ w : World, (askRoom (c'.toNat * i.bytes)).run P w = .ok () w := fun w => by
    unfold askRoom; split <;> simp [mark, Sem.run]
  have t1 : (decide (c' < 0) || decide ((i.bytes : Int) * c' > 2 ^ 48)) = false := by simp; omega
  have hc0 : ((c'.toNat : Nat) : Int) = c' := by omega
  have t2 : (decide (l' < 0) || decide (l' > c')) = false := by simp; omega
  by_cases h1 : c'.toNat * size = 0
  · have hcz : c'.toNat = 0 := by rcases Nat.mul_eq_zero.1 h1 with e | e; exact e; exact absurd e h0
    refine ⟨#[], ?_, by simp [h1], by rw [hcz]; simp [repl, VRs]⟩
    have hr0 : Array.range 0 = #[] := rfl
    simp only [Instr.makeSlice, Sem.run_bind, run_under hu, Result.andThen_ok, asInt, asIntOf, Sem.run_pure, run_info hinf, wl, wc, t1, Bool.false_or, Sem.run_ite, hroom, run_size hn, h1, if_true, newRow, newObj, Sem.run, hr0, Array.map_empty]
    simp only [t2, Bool.false_eq_true, if_false]
  · refine ⟨(Array.range (c'.toNat * size)).map (zv.cells[· % zv.cells.size]!), ?_, by simp, zeros_VRs (hzv η) hzl⟩
    simp only [Instr.makeSlice, Sem.run_bind, run_under hu, Result.andThen_ok, asInt, asIntOf, Sem.run_pure, run_info hinf, wl, wc, t1, Bool.false_or, Sem.run_ite, hroom, run_size hn, h1, if_false, hzr, newRow, newObj, Sem.run]
    simp only [t2, Bool.false_eq_true, if_false]

theorem VRs.allOne {l : List AV} (n : Nat) (h : l.all AV.isAddrOrScalar = true) : (l.take n).all AV.isAddrOrScalar = true := by
  rw [List.all_eq_true] at h ⊢
  exact fun x hx => h x (List.mem_of_mem_take hx)

theorem copy_ok (h : SR P η σ w) {ts : Array TypeId} {ty : TypeId} {d x v : AV} {u u' : Value} (hs : aCopy P ts d x σ = some (v, σ')) (hu : VR η d u) (hx : VR η x u') :
    ∃ y w' η', (Builtin.copy_ ts ty #[u, u']).run P w = .ok y w' ∧ St P η σ w η' σ' w' ∧ VR η' v y := by
  unfold aCopy at hs
  split at hs
  · next t ht =>
    split at hs
    · next e size bytes z id off dLen cap hi =>
      obtain ⟨hut, _, _, _, _, hn⟩ := elemInfo_some hi
      simp only [VR] at hu
      obtain ⟨q, hq, hle, rfl⟩ := hu
      split at hs
      · next n new c et opn hsrc hg =>
        split at hs
        · cases hs
        · next h0 =>
          split at hs
          · next hc =>
            obtain ⟨hl, hone⟩ := hc
            simp only [Option.map_eq_some_iff] at hs
            obtain ⟨c', hr, e1⟩ := hs
            cases e1
            obtain ⟨h1, h2, h3⟩ := srcCells_ok h hsrc hx
            obtain ⟨ys, h4, h5⟩ := h3 (Nat.min n dLen) (Nat.min_le_left _ _)
            obtain ⟨w', hrun, hst⟩ := write_ok h hg hl hq hr h5 (VRs.allOne _ hone)
            refine ⟨.int .i64 (Nat.min n dLen : Nat), w', η, ?_, hst, by simp [VR]⟩
            simp only [Builtin.copy_, ht, Array.getElem?_toList, List.getElem?_toArray, List.getElem?_cons_zero, List.getElem?_cons_succ, Sem.run_bind, run_under hut, Result.andThen_ok, h2, run_size hn, h4 w rfl, hrun, Sem.run_pure, goInt]
          · cases hs
      · cases hs
    · next e size bytes z hi =>
      obtain ⟨hut, _, _, _, _, hn⟩ := elemInfo_some hi
      split at hs
      · next p hsrc =>
        obtain ⟨n, new⟩ := p
        cases hs
        simp only [VR] at hu; subst hu
        obtain ⟨h1, h2, h3⟩ := srcCells_ok h hsrc hx
        obtain ⟨ys, h4, h5⟩ := h3 0 (Nat.zero_le _)
        refine ⟨.int .i64 0, w, η, ?_, St.refl h, by simp [VR]⟩
        have hmin : Nat.min n 0 = 0 := Nat.min_zero _
        simp only [Builtin.copy_, ht, Array.getElem?_toList, List.getElem?_toArray, List.getElem?_cons_zero, List.getElem?_cons_succ, Sem.run_bind, run_under hut, Result.andThen_ok, h2, run_size hn, hmin, h4 w rfl, Sem.run_pure, goInt]
        rfl
      · cases hs
    · cases hs
  · cases hs

theorem bytesOf_ok : ∀ {l : List AV} {b : List UInt8} {xs : List Value}, bytesOf l = some b → VRs η l xs → xs = b.map fun c => Value.int .u8 c.toNat
  | [], b, xs, h, hx => by simp [bytesOf] at h; subst h; simpa [VRs] using hx
  | a :: l, b, xs, h, hx => by
    simp only [VRs] at hx
    obtain ⟨x, rest, rfl, h1, h2⟩ := hx
    unfold bytesOf at h
    split at h
    · next heq => cases heq
    · next n rest' heq =>
      cases heq
      split at h
      · next hb =>
        simp only [Option.map_eq_some_iff] at h
        obtain ⟨b', hb', rfl⟩ := h
        simp only [VR] at h1; subst h1
        rw [bytesOf_ok hb' h2]
        simp only [List.map_cons, List.cons.injEq, and_true, Value.int.injEq, true_and]
        have : (UInt8.ofNat n.toNat).toNat = n.toNat := by simp; omega
        rw [this]; omega
      · cases h
    · cases h

theorem run_bytesLoop (f : Value → ByteArray → Sem (ForInStep ByteArray)) (hf : ∀ n r w, (f (.int .u8 n) r).run P w = .ok (.yield (r.push (UInt8.ofNat n.toNat))) w) (b : List UInt8) (acc : ByteArray) :
    (forIn (⟨b.map fun c => Value.int .u8 c.toNat⟩ : Array Value) acc f).run P w = .ok ⟨⟨acc.data.toList ++ b⟩⟩ w := by
  rw [← Array.forIn_toList]
  simp only
  induction b generalizing acc with
  | nil => simp
  | cons c b ih =>
    simp only [List.map_cons, List.forIn_cons, Sem.run_bind, hf, Result.andThen_ok]
    rw [ih]
    congr 1
    simp

theorem shape_of {bl : Nat} {cs : Array Value} {elem : TypeId} {fr : Nat × Nat} (h : w.heap[bl]? = some (.cells cs elem fr)) : w.shape? bl = some (elem, cs.size) := by
  simp [World.shape?, h]

/-- The bytes of a string, in a new block whose end is marked. -/
theorem toBytes_ok (h : SR P η σ w) {e : TypeId} {s : List UInt8} (he : e ≠ 0) (hn : sizeT P e = some 1) :
    ∃ y w' η', (Conv.stringToBytes e ⟨⟨s⟩⟩).run P w = .ok y w' ∧ St P η σ w η' (σ.new (.cells (byteAVs s) e true true)) w' ∧ VR η' (.sl σ.next 0 s.length none) y := by
  have hge := grownCap_ge w s.length 0 e
  generalize hcap : grownCap w s.length 0 e = cap at hge
  let xs : Array Value := (s.map fun b => Value.int .u8 b.toNat).toArray ++ Array.replicate (cap - s.length) (.int .u8 0)
  have hsz : xs.size = cap := by simp [xs]; omega
  have hpush : ∀ (o : Obj) (f : Obj → Obj), (w.heap.push o).modify w.heap.size f = w.heap.push (f o) := by
    intro o f
    apply Array.ext_getElem?
    intro i
    rw [Array.getElem?_modify, Array.getElem?_push, Array.getElem?_push]
    by_cases e1 : w.heap.size = i
    · subst e1; simp
    · rw [if_neg e1]
      by_cases e2 : i = w.heap.size
      · exact absurd e2.symm e1
      · rw [if_neg e2, if_neg e2]
  have hst : St P η σ w.drew (η.put σ.next ⟨w.heap.size, 0, cap, 1⟩) (σ.new (.cells (byteAVs s) e true true)) { w.drew with heap := w.heap.push (.cells xs e (cap, cap + 1)) } := by
    refine St.alloc (w := w.drew) h.drew _ _ _ rfl ?_
    refine ⟨xs, e, (cap, cap + 1), by show (w.heap.push _)[w.heap.size]? = _; simp, ?_⟩
    refine { fits := by simp [hsz], le := by simpa [byteAVs] using hge, shut := by simp, cell := ?_, free := fun _ k hk => ?_, whole := fun _ => ⟨rfl, by simp [hsz], fun _ => rfl⟩, room := fun _ => ⟨he, Nat.one_pos, hn⟩ }
    · intro k a hk
      obtain ⟨x, hx, hv⟩ := (byteAVs_VRs (η := η.put σ.next ⟨w.heap.size, 0, cap, 1⟩) s).at hk
      refine ⟨x, ?_, hv⟩
      have hkl := (List.getElem?_eq_some_iff.1 hx).1
      simp only [Nat.zero_add, xs]
      rw [Array.getElem?_append_left (by simpa using hkl)]
      simpa using hx
    · have hk' : k < cap := hk
      show ¬ (cap ≤ 0 + k ∧ 0 + k < cap + 1)
      omega
  refine ⟨.slice (some ⟨w.heap.size, 0, none⟩) s.length cap, _, _, ?_, (St.drew h).trans hst, ?_⟩
  · have hsh : ({ w.drew with heap := w.heap.push (.cells xs e) } : World).shape? w.heap.size = some (e, cap) := by
      simp [World.shape?, hsz]
    have hfz : ({ w.drew with heap := w.heap.push (.cells xs e) } : World).freeze { block := w.heap.size, off := cap } 1 = { w.drew with heap := w.heap.push (.cells xs e (cap, cap + 1)) } := by
      unfold World.freeze
      rw [if_neg (by omega), hpush]
      rfl
    have hch : (choose (.appendCap (⟨⟨s⟩⟩ : ByteArray).size 0 e)).run P w = .ok cap w.drew := by
      have : (⟨⟨s⟩⟩ : ByteArray).size = s.length := rfl
      rw [this]
      simp only [choose, Sem.run, Question.forced, Bool.false_eq_true, if_false]
      rw [← hcap]; rfl
    have hxs : ((⟨⟨s⟩⟩ : ByteArray).data.map fun b => Value.int .u8 b.toNat) ++ Array.replicate (cap - (⟨⟨s⟩⟩ : ByteArray).size) (.int .u8 0) = xs := by
      have : (⟨⟨s⟩⟩ : ByteArray).size = s.length := rfl
      rw [this]; simp [xs]
    simp only [Conv.stringToBytes, Sem.run_bind, hch, Result.andThen_ok, hxs, newRow, newObj, Sem.run_pure, Sem.run]
    simp only [markStringish, shape, Sem.run_bind, Sem.run]
    show ((Result.ok (({ w.drew with heap := w.heap.push (.cells xs e) } : World).shape? w.heap.size) _).andThen _).andThen _ = _
    rw [hsh]
    simp only [Result.andThen_ok, freeze, Sem.run]
    exact congrArg (Result.ok (Value.slice (some ⟨w.heap.size, 0, none⟩) s.length cap)) hfz
  · have := new_sl (q := ⟨w.heap.size, 0, cap, 1⟩) (η := η) (id := σ.next) (len := s.length) (cap := none) rfl (by simp only [Option.getD_none, Nat.div_one]; exact hge)
    simpa using this

theorem convert_ok (h : SR P η σ w) {src dst : TypeId} {a v : AV} {x : Value} (hs : aConvert P src dst a σ = some (v, σ')) (hx : VR η a x) :
    ∃ y w' η', (convert src dst x).run P w = .ok y w' ∧ St P η σ w η' σ' w' ∧ VR η' v y := by
  unfold aConvert at hs
  split at hs
  · next d k kd n h1 h2 =>
    cases hs
    simp only [VR] at hx; subst hx
    exact ⟨.int k (k.wrap n), w, η, by simp only [convert, Sem.run_bind, run_under h1, run_under h2, Result.andThen_ok]; rfl, St.refl h, by simp [VR]⟩
  · next s h1 h2 =>
    cases hs
    simp only [VR] at hx; subst hx
    exact ⟨_, w, η, by simp only [convert, Sem.run_bind, run_under h1, run_under h2, Result.andThen_ok]; rfl, St.refl h, by simp [VR]⟩
  · next e s h1 h2 =>
    split at hs
    · next h3 =>
      split at hs
      · next hc =>
        cases hs
        simp only [VR] at hx; subst hx
        obtain ⟨y, w', η', hr, hst, hv⟩ := toBytes_ok h (s := s) hc.1 hc.2
        exact ⟨y, w', η', by simp only [convert, Sem.run_bind, run_under h1, run_under h2, Result.andThen_ok, run_under h3]; exact hr, hst, hv⟩
      · cases hs
    · cases hs
  · next e h1 h2 =>
    split at hs
    · next h3 =>
      cases hs
      simp only [VR] at hx; subst hx
      exact ⟨.string ⟨⟨[]⟩⟩, w, η, by simp only [convert, Sem.run_bind, run_under h1, run_under h2, Result.andThen_ok, run_under h3, Conv.bytesToString, Sem.run_pure]; rfl, St.refl h, by simp [VR]⟩
    · cases hs
  · next e id off len cap h1 h2 =>
    split at hs
    · next c et rw opn h3 hg =>
      split at hs
      · next r hr =>
        simp only [Option.map_eq_some_iff] at hs
        obtain ⟨b, hb, e1⟩ := hs
        cases e1
        simp only [VR] at hx
        obtain ⟨q, hq, hle, rfl⟩ := hx
        obtain ⟨q', hq', cs, elem, fr, hblk, rr⟩ := h.obj _ _ hg rfl
        rw [hq] at hq'; cases hq'
        have hv := rr.takeVRs hr
        have hxs := bytesOf_ok hb hv
        refine ⟨.string ⟨⟨b⟩⟩, w, η, ?_, St.refl h, by simp [VR]⟩
        simp only [convert, Sem.run_bind, run_under h1, run_under h2, Result.andThen_ok, run_under h3, Conv.bytesToString]
        rw [run_loadCells' hblk (rr.take hr), hxs]
        simp only [Result.andThen_ok]
        rw [run_bytesLoop _ (fun _ _ _ => rfl)]
        rfl
      · cases hs
    · cases hs
  · next e l h1 h2 =>
    split at hs
    · next h3 =>
      simp only [Option.map_eq_some_iff] at hs
      obtain ⟨b, hb, e1⟩ := hs
      cases e1
      simp only [VR] at hx
      rcases hx with ⟨rfl, pa, rfl⟩ | ⟨bl, off, c, xs, sz, rfl, hc, g1, g2, g3⟩
      · simp [bytesOf] at hb
        subst hb
        exact ⟨.string ⟨⟨[]⟩⟩, w, η, by simp only [convert, Sem.run_bind, run_under h1, run_under h2, Result.andThen_ok, run_under h3, Conv.bytesToString, Sem.run_pure]; cases pa <;> simp [loadCells, loadCellsFrom] <;> rfl, St.refl h, by simp [VR]⟩
      have hxs := bytesOf_ok hb g1
      have hl1 := g1.length
      have hcl : cellsL xs = xs := by
        rw [hxs]
        clear hxs hb g1 g2 g3 hl1
        unfold cellsL
        induction b with
        | nil => rfl
        | cons c b ih =>
          simp only [List.map_cons, List.flatMap_cons, ih]
          rfl
      refine ⟨.string ⟨⟨b⟩⟩, w, η, ?_, St.refl h, by simp [VR]⟩
      simp only [convert, Sem.run_bind, run_under h1, run_under h2, Result.andThen_ok, run_under h3, Conv.bytesToString]
      have hload : (loadCells ⟨bl, off, none⟩ l.length).run P w = .ok ⟨xs⟩ w := by
        by_cases hn : l = []
        · subst hn
          have : xs = [] := List.eq_nil_of_length_eq_zero hl1.symm
          subst this
          simp [loadCells, loadCellsFrom]
        · obtain ⟨cs, elem, fr, h4, h5, h6⟩ := g3 hn
          rw [hcl] at h5 h6
          rw [run_loadCells' (h.roAt _ _ h4) (by omega)]
          congr 2
          apply List.ext_getElem?
          intro j
          rw [List.getElem?_take]
          split
          · next hj =>
            have hlt : j < xs.length := by omega
            rw [List.getElem?_drop, List.getElem?_eq_getElem hlt, Array.getElem?_toList]
            exact h6 j _ (List.getElem?_eq_getElem hlt)
          · next hj => rw [List.getElem?_eq_none (by omega)]
      rw [hload, hxs]
      simp only [Result.andThen_ok]
      rw [run_bytesLoop _ (fun _ _ _ => rfl)]
      rfl
    · cases hs
  · next t id off h1 h2 =>
    split at hs
    · next c et rw n hg hn =>
      split at hs
      · next hc =>
        cases hs
        obtain ⟨c1, c2, c3⟩ := hc
        simp only [VR] at hx
        obtain ⟨q, hq, rfl⟩ := hx
        obtain ⟨q', hq', cs, elem, fr, hblk, rr⟩ := h.obj _ _ hg rfl
        rw [hq] at hq'; cases hq'
        have hfit := rr.fits; have hle := rr.le
        simp only [sizeT, Option.map_eq_some_iff] at hn
        obtain ⟨i, hi, rfl⟩ := hn
        exact ⟨_, w, η, Lib.run_to_unsafe w _ h1 h2 hi c3 (shape_of hblk) (by show q.ba + off < cs.size; omega), St.refl h, by simp only [VR]; exact ⟨q, hq, rfl⟩⟩
      · cases hs
    · cases hs
  · next u id off h1 h2 =>
    split at hs
    · next c et rw n hg hn =>
      split at hs
      · next hc =>
        cases hs
        obtain ⟨c1, c2⟩ := hc
        simp only [VR] at hx
        obtain ⟨q, hq, rfl⟩ := hx
        obtain ⟨q', hq', cs, elem, fr, hblk, rr⟩ := h.obj _ _ hg rfl
        rw [hq] at hq'; cases hq'
        obtain ⟨w1, w2, w3⟩ := rr.whole c1
        have hba := w3 rfl
        have hlen := rr.shut rfl
        simp only [sizeT, Option.map_eq_some_iff] at hn
        obtain ⟨i, hi, _⟩ := hn
        refine ⟨_, w, η, Lib.run_from_unsafe w _ h1 h2 hi (shape_of hblk) ?_, St.refl h, by simp only [VR]; exact ⟨q, hq, rfl⟩⟩
        subst w1
        rw [hba] at w2 ⊢
        simp only [Nat.zero_add] at w2 ⊢
        rw [← w2, ← hlen]; exact c2
      · cases hs
    · cases hs
  · cases hs

end
end Go.Abs

/-! # AbsOps10 -/
namespace Go.Abs
noncomputable section
variable [TabsOf]
set_option linter.unusedSectionVars false
set_option linter.unusedVariables false
set_option linter.unusedSimpArgs false
variable {P : Program} {η : Env} {σ σ' : ASt} {w : World}

theorem setObj_ok {r : Nat} {o o' : Obj} (hb : w.heap[r]? = some o) (hno : ∀ c e f, o ≠ .cells c e f) : (setObj r o').run P w = .ok () (setBlk w r o') := by
  simp only [setObj, Sem.run, hb]
  cases o <;> first | (exact absurd rfl (hno _ _ _)) | rfl

theorem makeMap_ok (h : SR P η σ w) {t : TypeId} {r : Option Value} (hr : r = none ∨ ∃ k n kt et, r = some (.int k n) ∧ P.underlying t = some (.map kt et)) :
    ∃ y w' η', (Instr.makeMap t r).run P w = .ok y w' ∧ St P η σ w η' (σ.new (.map [])) w' ∧ VR η' (.mp σ.next) y := by
  refine ⟨.map (some w.heap.size), _, _, ?_, St.alloc h (.map []) (.map #[] 0) ⟨w.heap.size, 0, 0, 0⟩ rfl ⟨#[], 0, by simp, by simp, by simp⟩, by simp only [VR]; exact ⟨⟨w.heap.size, 0, 0, 0⟩, by simp [Env.put], rfl⟩⟩
  rcases hr with rfl | ⟨k, n, kt, et, rfl, hu⟩
  · simp only [Instr.makeMap, Sem.run_bind, newObj, Sem.run, Sem.run_pure, Result.andThen_ok]
  · simp only [Instr.makeMap, Sem.run_bind, run_under hu, asInt, asIntOf, newObj, Sem.run, Sem.run_pure, Result.andThen_ok]

theorem mapUpdate_ok (h : SR P η σ w) {t : TypeId} {m k v : AV} {x y z : Value} (hs : aMapUpdate P t m k v σ = some σ') (hx : VR η m x) (hy : VR η k y) (hz : VR η v z) :
    ∃ w', (Instr.mapUpdate t x y z).run P w = .ok () w' ∧ St P η σ w η σ' w' := by
  unfold aMapUpdate at hs
  split at hs
  · next kt et id hu =>
    split at hs
    · next es hg =>
      split at hs
      · next hc =>
        obtain ⟨hl, hfit⟩ := hc
        simp only [VR] at hx
        obtain ⟨q, hq, rfl⟩ := hx
        obtain ⟨q', hq', ms, clock, hb, hsz, hp⟩ := h.obj _ _ hg rfl
        rw [hq] at hq'; cases hq'
        obtain ⟨kd, hku, hf⟩ := fitKey_ok hfit
        have hck := checkKey_ok (w := w) hku hf hy false
        have hgo : (getObj q.bl).run P w = .ok (.map ms clock) w := by simp [getObj, Sem.run, hb]
        have hmr : MRs η es ms.toList := ⟨by simpa using hsz, fun k e hk => by obtain ⟨m, hm, h1, h2⟩ := hp k e hk; exact ⟨m, by simpa using hm, h1, h2⟩⟩
        split at hs
        · next i u hfound =>
          cases hs
          obtain ⟨r', h1, h2⟩ := find_ok hf hy hfound hmr
          cases r' with
          | none => exact h2.elim
          | some p =>
            obtain ⟨j', zz⟩ := p
            obtain ⟨rfl, _, hlt, _⟩ := h2
            simp only [Nat.zero_add] at hlt
            have hil : i < ms.size := by omega
            have hsame : Instr.sameNow kd y (ms[i]).key = some true := by
              have : ∀ (l : List MapEntry) (k j : Nat) (v : Value), Instr.findNow kd y l k = some (some (j, v)) → k ≤ j ∧ ∃ m, l[j - k]? = some m ∧ Instr.sameNow kd y m.key = some true := by
                intro l
                induction l with
                | nil => intro k j v hh; simp [Instr.findNow] at hh
                | cons m l ih =>
                  intro k j v hh
                  unfold Instr.findNow at hh
                  split at hh
                  · next hk => cases hh; exact ⟨Nat.le_refl _, m, by simp, hk⟩
                  · next hk =>
                    obtain ⟨a, m', b, c⟩ := ih _ _ _ hh
                    refine ⟨by omega, m', ?_, c⟩
                    have : j - k = (j - (k + 1)) + 1 := by omega
                    rw [this]; simpa using b
                  · cases hh
              obtain ⟨_, m, hm, hmm⟩ := this _ _ _ _ h1
              simp only [Nat.sub_zero, Array.getElem?_toList] at hm
              rw [Array.getElem?_eq_getElem hil] at hm
              cases hm; exact hmm
            have hbits := sameBits_refl hf hy hsame 9999
            have hfk : (Instr.findKey kt y ms.toList).run P w = .ok (some (i, zz)) w := by
              simp only [Instr.findKey, Sem.run_bind, run_under hku, Result.andThen_ok, h1, Sem.run_pure]
            have hstay : (Instr.keyThatStays (((ms[i]?).map (·.key)).getD y) y).run P w = .ok y w := by
              rw [Array.getElem?_eq_getElem hil]
              simp only [Option.map_some, Option.getD_some, Instr.keyThatStays]
              rw [if_pos hbits]; rfl
            refine ⟨setBlk w q.bl (.map (ms.modify i fun e => { e with key := y, val := z }) clock), ?_, St.write h hg rfl hl hq setBlk_size (fun k hk => setBlk_ne hk) rfl rfl rfl ?_⟩
            · simp only [Instr.mapUpdate, Sem.run_bind, run_under hu, Result.andThen_ok, hgo, hck, hfk, hstay]
              exact setObj_ok hb (by simp)
            · refine ⟨_, clock, setBlk_at hb, by simpa using hsz, fun j e hj => ?_⟩
              rw [List.getElem?_set] at hj
              split at hj
              · next e1 =>
                subst e1
                cases hj
                refine ⟨{ ms[i] with key := y, val := z }, ?_, hy, hz⟩
                rw [Array.getElem?_modify, if_pos rfl, Array.getElem?_eq_getElem hil]; rfl
              · next e1 =>
                obtain ⟨m, hm, a, b⟩ := hp j e hj
                refine ⟨m, ?_, a, b⟩
                rw [Array.getElem?_modify, if_neg e1]; exact hm
        · next hfound =>
          cases hs
          obtain ⟨r', h1, h2⟩ := find_ok hf hy hfound hmr
          cases r' with
          | some p => exact h2.elim
          | none =>
            have hfk : (Instr.findKey kt y ms.toList).run P w = .ok none w := by
              simp only [Instr.findKey, Sem.run_bind, run_under hku, Result.andThen_ok, h1, Sem.run_pure]
            refine ⟨setBlk w q.bl (.map (ms.push { key := y, val := z, born := clock }) (clock + 1)), ?_, St.write h hg rfl hl hq setBlk_size (fun k hk => setBlk_ne hk) rfl rfl rfl ?_⟩
            · simp only [Instr.mapUpdate, Sem.run_bind, run_under hu, Result.andThen_ok, hgo, hck, hfk]
              exact setObj_ok hb (by simp)
            · refine ⟨_, clock + 1, setBlk_at hb, by simp [hsz], fun j e hj => ?_⟩
              rw [List.getElem?_append] at hj
              split at hj
              · next hlt =>
                obtain ⟨m, hm, a, b⟩ := hp j e hj
                refine ⟨m, ?_, a, b⟩
                rw [Array.getElem?_push, if_neg (by omega)]; exact hm
              · next hge =>
                have hj0 : j - es.length = 0 := by
                  have := (List.getElem?_eq_some_iff.1 hj).1; simp at this; omega
                rw [hj0] at hj
                simp at hj; subst hj
                refine ⟨{ key := y, val := z, born := clock }, ?_, hy, hz⟩
                rw [Array.getElem?_push, if_pos (by omega)]
        · cases hs
      · cases hs
    · cases hs
  · cases hs

theorem range_ok (h : SR P η σ w) {t : TypeId} {s : List UInt8} (hu : P.underlying t = some .string) :
    ∃ y w' η', (Instr.range t (.string ⟨⟨s⟩⟩)).run P w = .ok y w' ∧ St P η σ w η' (σ.new (.iter s 0)) w' ∧ VR η' (.p σ.next 0) y := by
  refine ⟨.pointer (some ⟨w.heap.size, 0, none⟩), _, _, ?_, St.alloc h (.iter s 0) (.stringIter ⟨⟨s⟩⟩ 0) ⟨w.heap.size, 0, 0, 0⟩ rfl ⟨by simp, rfl⟩, by simp only [VR]; exact ⟨⟨w.heap.size, 0, 0, 0⟩, by simp [Env.put], rfl⟩⟩
  simp only [Instr.range, Sem.run_bind, run_under hu, newObj, Sem.run, Sem.run_pure, Result.andThen_ok]

theorem rangeM_nil (h : SR P η σ w) {t k e : TypeId} (hu : P.underlying t = some (.map k e)) :
    ∃ y w' η', (Instr.range t (.map none)).run P w = .ok y w' ∧ St P η σ w η' (σ.new (.iterM none)) w' ∧ VR η' (.p σ.next 0) y := by
  refine ⟨.pointer (some ⟨w.heap.size, 0, none⟩), _, _, ?_, St.alloc h (.iterM none) (.mapIter none 0 #[] 0) ⟨w.heap.size, 0, 0, 0⟩ rfl ⟨rfl, 0, 0, by simp⟩, by simp only [VR]; exact ⟨⟨w.heap.size, 0, 0, 0⟩, by simp [Env.put], rfl⟩⟩
  simp only [Instr.range, Sem.run_bind, run_under hu, newObj, Sem.run, Sem.run_pure, Result.andThen_ok]

theorem rangeM_some (h : SR P η σ w) {t k e : TypeId} (hu : P.underlying t = some (.map k e)) {id : Nat} {es : List (AV × AV)} (hg : σ.get id = some (.map es)) {x : Value} (hx : VR η (.mp id) x) :
    ∃ y w' η', (Instr.range t x).run P w = .ok y w' ∧ St P η σ w η' (σ.new (.iterM (some id))) w' ∧ VR η' (.p σ.next 0) y := by
  simp only [VR] at hx
  obtain ⟨q, hq, rfl⟩ := hx
  obtain ⟨q', hq', ms, clock, hb, hsz, _⟩ := h.obj _ _ hg rfl
  rw [hq] at hq'; cases hq'
  refine ⟨.pointer (some ⟨w.heap.size, 0, none⟩), _, _, ?_, St.alloc h (.iterM (some id)) (.mapIter (some q.bl) clock #[] clock) ⟨w.heap.size, 0, 0, 0⟩ rfl ⟨rfl, clock, clock, q, (Env.put_le h _).pl _ _ hq, by simp⟩, by simp only [VR]; exact ⟨⟨w.heap.size, 0, 0, 0⟩, by simp [Env.put], rfl⟩⟩
  simp only [Instr.range, Sem.run_bind, run_under hu, newObj, getObj, hb, Sem.run, Sem.run_pure, Result.andThen_ok]

theorem nextM_nil (h : SR P η σ w) {ty : TypeId} {id : Nat} (hg : σ.get id = some (.iterM none)) {x : Value} (hx : VR η (.p id 0) x) :
    (Instr.next x false ty).run P w = .ok (.tuple #[.bool false]) w := by
  simp only [VR] at hx
  obtain ⟨q, hq, rfl⟩ := hx
  obtain ⟨q', hq', h0, since, last, hb⟩ := h.obj _ _ hg rfl
  rw [hq] at hq'; cases hq'
  simp only [h0, Nat.add_zero, Instr.next, Sem.run_bind, getObj, Sem.run, hb, Result.andThen_ok, Sem.run_pure]

theorem nextM_some (h : SR P η σ w) {ty : TypeId} {id m : Nat} (hg : σ.get id = some (.iterM (some m))) (hm : σ.get m = some (.map [])) {x : Value} (hx : VR η (.p id 0) x) :
    (Instr.next x false ty).run P w = .ok (.tuple #[.bool false]) w := by
  simp only [VR] at hx
  obtain ⟨q, hq, rfl⟩ := hx
  obtain ⟨q', hq', h0, since, last, q2, hq2, hb⟩ := h.obj _ _ hg rfl
  rw [hq] at hq'; cases hq'
  obtain ⟨q3, hq3, ms, clock, hb2, hsz, _⟩ := h.obj _ _ hm rfl
  rw [hq2] at hq3; cases hq3
  have hms : ms = #[] := by apply Array.eq_empty_of_size_eq_zero; simpa using hsz
  subst hms
  have hch : (choose (.mapNext 1)).run P w = .ok 0 w := by simp [choose, Sem.run, Question.forced]
  have hf : ∀ p : MapEntry → Bool, (#[] : Array MapEntry).filter p = #[] := fun p => by simp
  have h2 : (if (#[] : Array MapEntry).isEmpty = true then #[none] else (#[] : Array (Option MapEntry))) ++ Array.map some ((#[] : Array MapEntry) ++ #[]) = #[none] := by simp
  simp only [h0, Nat.add_zero, Instr.next, Sem.run_bind, getObj, Sem.run, hb, hb2, Result.andThen_ok, Sem.run_pure, hf, h2]
  have h3 : (#[none] : Array (Option MapEntry)).size = 1 := rfl
  rw [h3, if_neg (by simp)]
  simp only [Sem.run_bind, hch, Result.andThen_ok]
  rfl

theorem next_ok (h : SR P η σ w) {ty : TypeId} {it v : AV} {x : Value} (hs : aNext it σ = some (v, σ')) (hx : VR η it x) :
    ∃ y w', (Instr.next x true ty).run P w = .ok y w' ∧ St P η σ w η σ' w' ∧ VR η v y := by
  unfold aNext at hs
  split at hs
  · next id =>
    split at hs
    · next s pos hg =>
      split at hs
      · next hl =>
        simp only [VR] at hx
        obtain ⟨q, hq, rfl⟩ := hx
        obtain ⟨q', hq', hb, hba⟩ := h.obj _ _ hg rfl
        rw [hq] at hq'; cases hq'
        have hgo : (getObj q.bl).run P w = .ok (.stringIter ⟨⟨s⟩⟩ pos) w := by simp [getObj, Sem.run, hb]
        rw [hba]
        split at hs
        · next hp =>
          cases hs
          refine ⟨.tuple #[.bool true, .int .i64 pos, .int .i32 (Utf8.decode ⟨⟨s⟩⟩ pos).1], _, ?_, St.write h hg rfl hl hq setBlk_size (fun k hk => setBlk_ne hk) rfl rfl rfl ⟨setBlk_at (o' := .stringIter ⟨⟨s⟩⟩ (pos + (Utf8.decode ⟨⟨s⟩⟩ pos).2)) hb, hba⟩, ?_⟩
          · have hp' : pos < (⟨⟨s⟩⟩ : ByteArray).size := hp
            simp only [Instr.next, Nat.add_zero, Sem.run_bind, hgo, Result.andThen_ok, Sem.run_ite, hp', if_true, setObj_ok hb (by simp), Sem.run_pure, goInt]
          · simp only [VR]; exact ⟨_, rfl, VRs.cons (by simp [VR]) (VRs.cons (by simp [VR]) (VRs.cons (by simp [VR]) (by simp [VRs])))⟩
        · next hp =>
          cases hs
          refine ⟨.tuple #[.bool false], w, ?_, St.refl h, by simp only [VR]; exact ⟨_, rfl, VRs.cons (by simp [VR]) (by simp [VRs])⟩⟩
          have hp' : ¬ pos < (⟨⟨s⟩⟩ : ByteArray).size := hp
          simp only [Instr.next, Nat.add_zero, Sem.run_bind, hgo, Result.andThen_ok, Sem.run_ite, hp', if_false, Sem.run_pure]
      · cases hs
    · cases hs
  · cases hs

theorem sliceData_nil {ts : Array TypeId} {ty : TypeId} : (Builtin.unsafeSliceData_ ts ty #[.slice none 0 0]).run P w = .ok (.pointer none) w := rfl
theorem sliceData_some {ts : Array TypeId} {ty : TypeId} {a : Addr} {n c : Nat} (hc : c ≠ 0) : (Builtin.unsafeSliceData_ ts ty #[.slice (some a) n c]).run P w = .ok (.pointer (some a)) w := by
  show (if c ≠ 0 then pure (.pointer (some a)) else _ : Sem Value).run P w = _
  rw [if_pos hc]; rfl

theorem unsafeString_zero {pt it ty : TypeId} {p : Option Addr} : (Builtin.unsafeString_ #[pt, it] ty #[.pointer p, .int .i64 0]).run P w = .ok (.string ⟨⟨[]⟩⟩) w := Lib.run_unsafeString_none w pt it ty p

theorem liesAt_bytes {e : TypeId} (hc : P.cellsOf e = 1) (count off n : Nat) (hn : off + n ≤ count) : liesAt P P.depth e count off e n = true := by
  have hd : P.depth = (2 * (P.types.size + Made.depth) + 1) + 1 := rfl
  rw [hd]
  simp only [liesAt, Bool.or_eq_true]
  left
  rw [hd]
  simp [rowAt, hc, hn, sameLayout, Nat.mod_one]

theorem run_unsafeString_at (pt it ty e : TypeId) (hp : P.underlying pt = some (.pointer e)) (hc : P.cellsOf e = 1) (g off cells : Nat) (hsh : w.shape? g = some (e, cells)) (l : List UInt8) (h0 : l ≠ []) (hn : off + l.length ≤ cells) (h63 : l.length ≤ 9223372036854775807)
    (hcell : ∀ (j : Nat) x, l[j]? = some x → w.cell? ((⟨g, off, none⟩ : Addr).add j) = some (.int .u8 x.toNat)) :
    (Builtin.unsafeString_ #[pt, it] ty #[.pointer (some ⟨g, off, none⟩), .int .i64 l.length]).run P w = .ok (.string ⟨l.toArray⟩) (w.freeze ⟨g, off, none⟩ l.length) := by
  have hl : l.length ≠ 0 := by simpa using h0
  have hlb := Lib.run_loadBytes (P := P) w l ⟨g, off, none⟩ .empty hcell
  have hlies := liesAt_bytes (P := P) hc (cells / P.cellsOf e) off l.length (by rw [hc]; simpa using hn)
  have h63' : ¬ (9223372036854775807 : Int) < (l.length : Int) := by omega
  have hdef : Builtin.unsafeString_ #[pt, it] ty #[.pointer (some ⟨g, off, none⟩), .int .i64 l.length] =
      (do
        let n ← asInt (.int .i64 l.length)
        if n < 0 then runtimePanic (.error "unsafe.String: len out of range")
        if n > IntKind.i64.max then unsupported (.unsafePointer "String: a length above the largest int")
        if n = 0 then pure (.string .empty)
        else if ← variablesAt ⟨g, off, none⟩ (← elemOf pt) n.toNat then do
          let s ← loadBytes ⟨g, off, none⟩ .empty n.toNat
          freeze ⟨g, off, none⟩ n.toNat
          pure (.string s)
        else unsupported (.unsafePointer "String: not so many bytes at ptr")) := rfl
  rw [hdef]
  have hmax : IntKind.i64.max = 9223372036854775807 := rfl
  have hneg : ¬ (l.length : Int) < 0 := by omega
  simp [asInt, asIntOf, hmax, h63', hneg, hl, variablesAt, hsh, elemOf, run_underlying hp, hlies, hlb]

theorem freeze_eq {bl off n : Nat} {cs : Array Value} {elem : TypeId} {fr : Nat × Nat} (h : w.heap[bl]? = some (.cells cs elem fr)) (hn : n ≠ 0) :
    w.freeze ⟨bl, off, none⟩ n = setBlk w bl (.cells cs elem (if fr.1 == fr.2 then (off, off + n) else (min fr.1 off, max fr.2 (off + n)))) := by
  unfold World.freeze setBlk
  rw [if_neg hn]
  congr 1
  apply Array.ext_getElem?; intro i
  rw [Array.getElem?_modify, Array.getElem?_setIfInBounds]
  by_cases e : bl = i
  · subst e
    have : bl < w.heap.size := (Array.getElem?_eq_some_iff.1 h).1
    rw [if_pos rfl, if_pos rfl, if_pos this, h]; rfl
  · rw [if_neg e, if_neg e]

theorem unsafeString_ok (h : SR P η σ w) {t it ty e : TypeId} {id off : Nat} {n : Int} {c r : List AV} {opn : Bool} {b : List UInt8} {q : Place} (hu : P.underlying t = some (.pointer e))
    (hg : σ.get id = some (.cells c e true opn)) (he : e ≠ 0) (hc : P.cellsOf e = 1) (h0 : 0 < n) (h62 : n < 2 ^ 62) (hl : σ.lock ≤ id) (hr : takeN c off n.toNat = some r) (hb : bytesOf r = some b) (hq : η id = some q) :
    ∃ y w', (Builtin.unsafeString_ #[t, it] ty #[.pointer (some ⟨q.bl, q.ba + off, none⟩), .int .i64 n]).run P w = .ok y w' ∧ St P η σ w η (σ.put id (.cells c e false opn)) w' ∧ VR η (.s b) y := by
  obtain ⟨q', hq', cs, elem, fr, hblk, rr⟩ := h.obj _ _ hg rfl
  rw [hq] at hq'; cases hq'
  obtain ⟨w1, w2, w3⟩ := rr.whole he
  subst w1
  have hv := rr.takeVRs hr
  have hxs := bytesOf_ok hb hv
  obtain ⟨hr1, hr2, hr3⟩ := takeN_some hr
  have hfit := rr.fits; have hle := rr.le
  have hlen : b.length = n.toNat := by
    have := hv.length
    rw [hxs, List.length_map] at this; omega
  have hn : ((b.length : Nat) : Int) = n := by omega
  have hrun := run_unsafeString_at (P := P) (w := w) t it ty elem hu hc q.bl (q.ba + off) cs.size (shape_of hblk) b (by intro e1; subst e1; simp at hlen; omega) (by omega) (by omega) (fun j x hj => by
    rw [add_none, cell_eq hblk]
    have h5 : (List.take n.toNat (List.drop (q.ba + off) cs.toList))[j]? = some (Value.int .u8 x.toNat) := by rw [hxs]; simp [hj]
    rw [List.getElem?_take] at h5
    split at h5
    · rw [List.getElem?_drop, Array.getElem?_toList] at h5; exact h5
    · cases h5)
  rw [hn, freeze_eq hblk (by omega)] at hrun
  refine ⟨_, _, hrun, St.write h hg rfl hl hq setBlk_size (fun k hk => setBlk_ne hk) rfl rfl rfl ?_, by simp [VR]⟩
  exact ⟨cs, elem, _, setBlk_at hblk, { rr with free := by simp }⟩

end
end Go.Abs
