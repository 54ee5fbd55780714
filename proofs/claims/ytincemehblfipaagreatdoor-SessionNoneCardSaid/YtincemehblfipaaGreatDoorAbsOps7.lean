/- Slices that are made, appended to and copied into. -/
import Derived.Test.YtincemehblfipaaGreatDoorAbsOps6
import Derived.Deep.AppendSrc
namespace Go.Abs
noncomputable section
variable [TabsOf]
set_option linter.unusedSectionVars false
set_option linter.unusedVariables false
set_option linter.unusedSimpArgs false
variable {P : Program} {η : Env} {σ σ' : ASt} {w : World}

theorem new_sl {q : Place} {id len : Nat} {cap : Option Nat} (h0 : q.ba = 0) (hc : len ≤ cap.getD (q.sz / q.es)) : VR (η.put id q) (.sl id 0 len cap) (.slice (some ⟨q.bl, 0, none⟩) len (cap.getD (q.sz / q.es))) := by
  simp only [VR]; exact ⟨q, by simp [Env.put], by simpa using hc, by simp [h0]⟩

theorem buildSlice_ok (h : SR P η σ w) {t e : TypeId} {size bytes len : Nat} {z : List AV} {ps : List (Nat × AV)} {qs : Array (Nat × Value)} {cs : List AV} (hi : elemInfo P t = some (e, size, bytes, z))
    (hlen : ¬ len * size > 2 ^ 24) (hf : aFill (fun i => some (i * size, size)) (if len * size = 0 then [] else repl len z) ps = some cs) (hp : PRs η ps qs.toList) :
    ∃ y w' η', (Instr.buildSlice t len qs).run P w = .ok y w' ∧ St P η σ w η' (σ.new (.cells cs e true false)) w' ∧ VR η' (.sl σ.next 0 len (some len)) y := by
  obtain ⟨hu, _, hz, he, hzl, hn⟩ := elemInfo_some hi
  obtain ⟨zv, hzr, hzv⟩ := run_zero hz
  by_cases h0 : len * size = 0
  · simp only [h0, if_true] at hf
    obtain ⟨xs, hfill, hxs⟩ := fill_ok (cs := #[]) hf hp (by simp [VRs])
    have hl := hxs.length
    refine ⟨_, _, _, ?_, cells_new h (xs := xs) (es := 0) (opn := false) ?_ (by simpa using Nat.le_of_eq hl) (fun _ => by simpa using hl) (by simp), new_sl (cap := some len) rfl (by simp)⟩
    · have hr0 : Array.range 0 = #[] := rfl
      have hg : ¬ (0 > 2 ^ 24) := by omega
      simp only [Instr.buildSlice, Sem.run_bind, run_under hu, Result.andThen_ok, run_size hn, Sem.run_ite, h0, if_neg hg, if_true, Sem.run_pure, hr0, Array.map_empty, hfill, newRow, newObj, Sem.run]
      rfl
    · rw [hl, List.take_length]; exact hxs
  · simp only [h0, if_false] at hf
    obtain ⟨xs, hfill, hxs⟩ := fill_ok hf hp (zeros_VRs (hzv η) hzl)
    have hl := hxs.length
    refine ⟨_, _, _, ?_, cells_new h (xs := xs) (es := 0) (opn := false) ?_ (by simpa using Nat.le_of_eq hl) (fun _ => by simpa using hl) (by simp), new_sl (cap := some len) rfl (by simp)⟩
    · simp only [Instr.buildSlice, Sem.run_bind, run_under hu, Result.andThen_ok, run_size hn, Sem.run_ite, if_neg hlen, h0, if_false, hzr, Sem.run_pure, hfill, newRow, newObj, Sem.run]
      rfl
    · rw [hl, List.take_length]; exact hxs

/-! ### append -/
theorem growBy_le (m : Nat) : ∀ (r c : Nat), c ≤ m + (m + 768) / 4 → Builtin.growBy m r c ≤ m + (m + 768) / 4
  | 0, c, h => by simpa [Builtin.growBy] using h
  | r + 1, c, h => by
    unfold Builtin.growBy
    split
    · exact h
    · next h1 => exact growBy_le m r _ (by omega)

theorem nextcap_le {need cap : Nat} (h : cap < need) : Builtin.nextslicecap need cap ≤ 2 * need + 2000 := by
  unfold Builtin.nextslicecap
  split
  · omega
  · split
    · omega
    · have := growBy_le need 4 cap (by omega); omega

theorem byteAVs_VRs (s : List UInt8) : VRs η (byteAVs s) (s.map fun b => .int .u8 b.toNat) := by
  induction s with
  | nil => simp [byteAVs, VRs]
  | cons c s ih => exact VRs.cons (by simp [VR]) ih

theorem srcCells_ok (h : SR P η σ w) {size n : Nat} {a : AV} {l : List AV} {x : Value} (hs : srcCells σ size a = some (n, l)) (hx : VR η a x) :
    l.length = n * size ∧ (∀ w' : World, (Builtin.lenOf x).run P w' = .ok n w') ∧ ∀ k, k ≤ n → ∃ ys, (∀ w' : World, w'.heap = w.heap → (Builtin.firstCells size k x).run P w' = .ok ⟨ys⟩ w') ∧ VRs η (l.take (k * size)) ys := by
  unfold srcCells at hs
  split at hs
  · cases hs
    simp only [VR] at hx; subst hx
    refine ⟨by simp, fun _ => rfl, fun k hk => ⟨[], fun _ _ => ?_, by simp [VRs]⟩⟩
    simp [Builtin.firstCells]
  · next id off len cap =>
    simp only [VR] at hx
    obtain ⟨q, hq, _, rfl⟩ := hx
    split at hs
    · next c et rw opn hg =>
      simp only [Option.map_eq_some_iff] at hs
      obtain ⟨r, hr, e⟩ := hs
      cases e
      obtain ⟨q', hq', cs, elem, fr, hb, rr⟩ := h.obj _ _ hg
      rw [hq] at hq'; cases hq'
      have hfull := rr.takeVRs hr
      obtain ⟨hr1, hr2, hr3⟩ := takeN_some hr
      refine ⟨hr2, fun _ => rfl, fun k hk => ⟨((cs.toList.drop (q.ba + off)).take (n * size)).take (k * size), fun w' hw => ?_, hfull.take _⟩⟩
      have hks : k * size ≤ n * size := Nat.mul_le_mul_right _ hk
      rw [List.take_take, Nat.min_eq_left hks]
      have hfit := rr.fits; have hle := rr.le
      simp only [Builtin.firstCells]
      exact run_loadCells' (by rw [hw]; exact hb) (by omega)
    · cases hs
  · next s =>
    split at hs
    · next e1 =>
      cases hs
      simp only [VR] at hx; subst hx
      refine ⟨by simp [byteAVs, e1], fun _ => rfl, fun k hk => ⟨(s.take k).map fun b => .int .u8 b.toNat, fun _ _ => ?_, ?_⟩⟩
      · simp only [Builtin.firstCells, strExtract, Sem.run_pure]
        simp
      · rw [e1, Nat.mul_one]
        have := byteAVs_VRs (η := η) (s.take k)
        simpa [byteAVs, List.map_take] using this
    · cases hs
  · next es =>
    split at hs
    · next hall =>
      cases hs
      simp only [VR] at hx
      rcases hx with ⟨rfl, rfl⟩ | ⟨bl, off, c, xs, sz, rfl, hc, h1, h2, h3⟩
      · exact ⟨by simp, fun _ => rfl, fun k hk => ⟨[], fun _ _ => by simp [Builtin.firstCells], by simp [VRs]⟩⟩
      have hsz := all_size h1 hall
      have hfl := flat_VRs h1
      have hlen := cellsL_length hsz
      have hl1 := h1.length
      have hl2 := hfl.length
      refine ⟨by rw [hl2, hlen, hl1], fun _ => rfl, fun k hk => ⟨(cellsL xs).take (k * size), fun w' hw => ?_, hfl.take _⟩⟩
      simp only [Builtin.firstCells]
      by_cases hn : es = []
      · subst hn
        simp at hl1
        have : xs = [] := List.eq_nil_of_length_eq_zero hl1.symm
        subst this
        simp at hk
        subst hk
        simp [loadCells, loadCellsFrom, cellsL]
      · obtain ⟨cs, elem, fr, h4, h5, h6⟩ := h3 hn
        have hks : k * size ≤ xs.length * size := Nat.mul_le_mul_right _ (by omega)
        rw [run_loadCells' (by rw [hw]; exact h.roAt _ _ h4) (by omega)]
        congr 2
        apply List.ext_getElem?
        intro j
        rw [List.getElem?_take, List.getElem?_take]
        split
        · next hj =>
          have hlt : j < (cellsL xs).length := by omega
          rw [List.getElem?_drop, List.getElem?_eq_getElem hlt, Array.getElem?_toList]
          exact h6 j _ (List.getElem?_eq_getElem hlt)
        · rfl
    · cases hs
  · cases hs

theorem zeroCells_length (zero : Array Value) (n : Nat) : (Builtin.zeroCells zero n).size = n * zero.size := by simp [Builtin.zeroCells]

theorem isSrc_ok {t : TypeId} (h : isSrcT P t = true) : (∃ e', P.underlying t = some (.slice e')) ∨ P.underlying t = some .string := by
  unfold isSrcT at h
  split at h
  · next e hu => exact .inl ⟨e, hu⟩
  · next hu => exact .inr hu
  · cases h

theorem oneC_eq (v : Value) : v.oneCell' = oneC v := by cases v <;> rfl

theorem all_one {l : List AV} {xs : List Value} (hv : VRs η l xs) (hone : l.all AV.isAddrOrScalar = true) : ∀ x ∈ xs, oneC x = true := by
  intro x hx
  have hlen := hv.length
  obtain ⟨k, hk⟩ := List.mem_iff_getElem?.1 hx
  have hlt : k < l.length := by have := (List.getElem?_eq_some_iff.1 hk).1; omega
  obtain ⟨y, hy, hvy⟩ := hv.at (List.getElem?_eq_getElem hlt)
  rw [hk] at hy; cases hy
  exact oneC_of hvy (List.all_eq_true.1 hone _ (List.getElem_mem hlt))

/-- What the second argument of an append yields. -/
theorem src_ok (h : SR P η σ w) {size n : Nat} {a : AV} {l : List AV} {x : Value} {t1 : TypeId} (ht : isSrcT P t1 = true) (hs : srcCells σ size a = some (n, l)) (hx : VR η a x) (hone : l.all AV.isAddrOrScalar = true) :
    ∃ ys, Src P size t1 x n ys w ∧ VRs η l ys := by
  obtain ⟨h1, h2, h3⟩ := srcCells_ok h hs hx
  obtain ⟨ys, h4, h5⟩ := h3 n (Nat.le_refl _)
  have hl : l.take (n * size) = l := List.take_of_length_le (by omega)
  rw [hl] at h5
  have hlen := h5.length
  exact ⟨ys, ⟨isSrc_ok ht, h2, h4 w rfl, h4 w.drew rfl, by rw [← hlen, h1], fun u hu => by rw [oneC_eq]; exact all_one h5 hone u hu⟩, h5⟩

theorem setCells_nil (w : World) (b o : Nat) : w.setCells b o [] = w := rfl

theorem zeroT_some {e : TypeId} {z : List AV} (h : zeroCellsOf P e = some z) : ∃ i zv, P.info? e = some i ∧ i.zero = some zv ∧ ∀ η : Env, VRs η z zv.cells.toList := by
  unfold zeroCellsOf at h
  split at h
  · next i hi =>
    split at h
    · next zv hz =>
      simp only [Option.map_eq_some_iff] at h
      obtain ⟨a, ha, rfl⟩ := h
      exact ⟨i, zv, hi, hz, fun η => cells_VRs (ofVal_VR _ _ _ ha)⟩
    · cases h
  · cases h

/-- The arm that grows. -/
theorem grow_ok (h : SR P η σ w) {t t1 ty e : TypeId} {size bytes n sLen sCap : Nat} {z new old : List AV} {ys os : List Value} {base : Option Addr} {x : Value}
    (hi : elemInfo P t = some (e, size, bytes, z)) (hsrc : Src P size t1 x n ys w) (hys : VRs η new ys) (hold : (Builtin.firstCells size sLen (.slice base sLen sCap)).run P w.drew = .ok ⟨os⟩ w.drew) (hos : VRs η old os)
    (hol : old.length = sLen * size) (hnl : new.length = n * size) (hs0 : size ≠ 0) (hg : sCap < sLen + n) (hb1 : (2 * (sLen + n) + 2000) * bytes ≤ 2 ^ 48 ∨ (2 * (sLen + n)) * bytes ≤ 2 ^ 48) (hb2 : sLen + n ≤ 2 ^ 48) :
    ∃ y w' η', (Builtin.append_ #[t, t1] ty #[.slice base sLen sCap, x]).run P w = .ok y w' ∧ St P η σ w η' (σ.new (.cells (old ++ new) e true true)) w' ∧ VR η' (.sl σ.next 0 (sLen + n) none) y := by
  obtain ⟨hu, ⟨i, hinf, hsz, hby⟩, hz, he, hzl, hn⟩ := elemInfo_some hi
  obtain ⟨i', zv, hinf', hzv, hzr⟩ := zeroT_some hz
  rw [hinf] at hinf'; cases hinf'
  subst hsz
  subst hby
  have hcap := grownCap_ge w (sLen + n) sCap e
  have hfit : Builtin.nextslicecap (sLen + n) sCap * i.bytes ≤ 281474976710656 := by
    have h1 := nextslicecap_le hg
    have h2 : Builtin.nextslicecap (sLen + n) sCap * i.bytes ≤ (2 * (sLen + n)) * i.bytes := Nat.mul_le_mul_right _ h1
    rcases hb1 with h3 | h3
    · have : (2 * (sLen + n)) * i.bytes ≤ (2 * (sLen + n) + 2000) * i.bytes := Nat.mul_le_mul_right _ (by omega)
      omega
    · omega
  have hrun := run_append_grow_src w t t1 ty e i zv hu hinf hzv base sLen sCap os hold x n ys hsrc hg (by omega) hfit
  have hzs : zv.cells.size = i.size := by have := (hzr η).length; simp only [Array.length_toList] at this; omega
  have hst := cells_new h.drew (c := old ++ new) (xs := (os ++ ys).toArray ++ Builtin.zeroCells zv.cells (grownCap w (sLen + n) sCap e - (sLen + n))) (elem := e) (opn := true) (es := i.size) ?_ ?_ (by simp) (fun _ => ⟨he, by omega, hn⟩)
  · have hsz : ((os ++ ys).toArray ++ Builtin.zeroCells zv.cells (grownCap w (sLen + n) sCap e - (sLen + n))).size = grownCap w (sLen + n) sCap e * i.size := by
      have h1 := hos.length; have h2 := hys.length
      simp only [Array.size_append, zeroCells_length, List.size_toArray, List.length_append, hzs]
      rw [← h1, ← h2, hol, hnl, ← Nat.add_mul, ← Nat.add_mul]
      congr 1; omega
    refine ⟨_, _, _, hrun, (St.drew h).trans hst, ?_⟩
    rw [hsz]
    have hdiv : grownCap w (sLen + n) sCap e * i.size / i.size = grownCap w (sLen + n) sCap e := Nat.mul_div_cancel _ (by omega)
    have := new_sl (q := ⟨w.heap.size, 0, grownCap w (sLen + n) sCap e * i.size, i.size⟩) (η := η) (id := σ.next) (len := sLen + n) (cap := none) rfl (by simp only [Option.getD_none, hdiv]; exact hcap)
    simp only [Option.getD_none, hdiv] at this
    exact this
  · have h3 := hos.append hys
    have h4 := h3.length
    rw [Array.toList_append, List.take_append_of_le_length (by simp only [List.toList_toArray]; omega), List.take_of_length_le (by simp only [List.toList_toArray]; omega)]
    simpa using h3
  · have h3 := (hos.append hys).length
    simp only [Array.size_append, List.size_toArray]; omega

end
end Go.Abs
