/- Slicing, lengths, conversions, comparisons, building. -/
import Derived.Test.YtincemehblfipaaGreatDoorAbsOps2
import Derived.Lib.Builder
namespace Go.Abs
noncomputable section
variable [TabsOf]
set_option linter.unusedSectionVars false
set_option linter.unusedVariables false
set_option linter.unusedSimpArgs false
variable {P : Program} {η : Env} {σ σ' : ASt} {w : World}

theorem strSize (s : List UInt8) : (⟨⟨s⟩⟩ : ByteArray).size = s.length := rfl

theorem strExtract (s : List UInt8) (l h : Nat) : (⟨⟨s⟩⟩ : ByteArray).extract l h = ⟨⟨(s.take h).drop l⟩⟩ := by
  apply ByteArray.ext
  rw [ByteArray.data_extract]
  apply Array.ext'
  simp [List.drop_take, List.extract_eq_take_drop]

theorem ro_nil {ad : Addr} {c : Nat} (hs : ad.spot = none := by rfl) : VR η (.ro []) (.slice (some ad) 0 c) := by
  simp only [VR]
  obtain ⟨bl, off, sp⟩ := ad
  simp only at hs; subst hs
  right
  exact ⟨bl, off, c, [], 0, rfl, Nat.zero_le _, by simp [VRs], by simp, fun h => absurd rfl h⟩

theorem aBounds_le {len : Nat} {room : Nat → Bool} {lo hi : Option AV} {l h : Nat} (hb : aBounds len room lo hi = some (l, h)) (hr : ∀ k, room k = true → k ≤ len) : h ≤ len := by
  unfold aBounds at hb
  split at hb
  · cases hb
  · next e =>
    split at hb
    · cases hb
    · cases hb
      cases hi with
      | none => simp [aHigh] at e; omega
      | some v =>
        simp only [aHigh] at e
        split at e
        · split at e
          · next h1 => cases e; exact hr _ h1.2
          · cases e
        · cases e

theorem slice_ok (h : SR P η σ w) {t : TypeId} {a v : AV} {x : Value} {lo hi : Option AV} {lo' hi' : Option Value} (hs : aSlice P t σ a lo hi = some v) (hx : VR η a x) (hlo : OptVR η lo lo') (hhi : OptVR η hi hi') :
    ∃ y, (Instr.sliceAt t x lo' hi' none).run P w = .ok y w ∧ VR η v y := by
  unfold aSlice at hs
  split at hs
  · next s hu =>
    simp only [Option.map_eq_some_iff, Prod.exists] at hs
    obtain ⟨l, hh, hb, rfl⟩ := hs
    simp only [VR] at hx; subst hx
    have hB := bounds_ok (P := P) (w := w) (sl := false) (cap := s.length) hb (fun k hk => by simpa using hk) (Nat.le_refl _) hlo hhi
    refine ⟨.string ⟨⟨(s.take hh).drop l⟩⟩, ?_, by simp [VR]⟩
    simp only [Instr.sliceAt, Instr.slice, run_under hu, Sem.run_bind, Result.andThen_ok, strSize, Option.isSome_none, Bool.false_eq_true, if_false, hB.1, Sem.run_pure, strExtract, Sem.run_ite]
  · next e id off len cap hu =>
    simp only [VR] at hx
    obtain ⟨q, hq, hle, rfl⟩ := hx
    split at hs
    · next size c hn =>
      simp only [Option.bind_eq_some_iff, Prod.exists] at hs
      obtain ⟨l, hh, hb, hs⟩ := hs
      simp only [Option.getD_some] at hle ⊢
      have hB := bounds_ok (P := P) (w := w) (sl := true) (cap := c) hb (fun k hk => by simpa using hk) hle hlo hhi
      split at hs
      · next e1 =>
        cases hs
        subst e1
        refine ⟨.slice (some ⟨q.bl, q.ba + off, none⟩) (hh - c) 0, ?_, ?_⟩
        · simp only [Instr.sliceAt, Instr.slice, run_under hu, Sem.run_bind, Result.andThen_ok, hB.1, run_size hn, Sem.run_pure, if_true, Nat.sub_self]
        · simp only [VR]; exact ⟨q, hq, by simp; omega, rfl⟩
      · next e1 =>
        cases hs
        refine ⟨.slice (some ⟨q.bl, q.ba + off + l * size, none⟩) (hh - l) (c - l), ?_, ?_⟩
        · simp only [Instr.sliceAt, Instr.slice, run_under hu, Sem.run_bind, Result.andThen_ok, hB.1, run_size hn, Sem.run_pure, if_neg e1, Option.map_some, add_none]
        · simp only [VR]; exact ⟨q, hq, by simp; omega, by rw [Nat.add_assoc]; rfl⟩
    · next size hn =>
      split at hs
      · next c et rw hg =>
        split at hs
        · next het =>
          simp only [Option.bind_eq_some_iff, Prod.exists] at hs
          obtain ⟨l, hh, hb, hs⟩ := hs
          obtain ⟨q', hq', cs, elem, fr, hbk, r⟩ := h.obj _ _ hg
          rw [hq] at hq'; cases hq'
          obtain ⟨_, hes, hsz⟩ := r.room rfl
          rw [het, hn] at hsz
          cases hsz
          simp only [Option.getD_none] at hle ⊢
          have hB := bounds_ok (P := P) (w := w) (sl := true) (cap := (q.sz - off) / q.es) hb (fun k hk => by simp at hk; omega) hle hlo hhi
          have hhl : hh ≤ len := by
            unfold aBounds at hb
            split at hb
            · cases hb
            · next e =>
              split at hb
              · cases hb
              · cases hb
                cases hi with
                | none => simp [aHigh] at e; omega
                | some v =>
                  simp only [aHigh] at e
                  split at e
                  · split at e
                    · next h1 => cases e; simpa using h1.2
                    · cases e
                  · cases e
          have hsub : (q.sz - off) / q.es - l = (q.sz - (off + l * q.es)) / q.es := by
            rw [← Nat.sub_sub, Nat.mul_comm l, Nat.sub_mul_div]
          split at hs
          · next e1 =>
            cases hs
            refine ⟨.slice (some ⟨q.bl, q.ba + off + l * q.es, none⟩) (hh - l) ((q.sz - off) / q.es - l), ?_, ?_⟩
            · simp only [Instr.sliceAt, Instr.slice, run_under hu, Sem.run_bind, Result.andThen_ok, hB.1, run_size hn, Sem.run_pure, Option.map_some, add_none]
              rw [if_neg (by omega)]
            · simp only [VR]
              refine ⟨q, hq, ?_, ?_⟩
              · simp only [Option.getD_none]; rw [← hsub]; omega
              · simp only [Option.getD_none]; rw [← hsub, Nat.add_assoc]
          · split at hs
            · next e1 e2 =>
              cases hs
              subst e2
              refine ⟨.slice (some ⟨q.bl, q.ba + off, none⟩) (hh - 0) ((q.sz - off) / q.es - 0), ?_, ?_⟩
              · simp only [Instr.sliceAt, Instr.slice, run_under hu, Sem.run_bind, Result.andThen_ok, hB.1, run_size hn, Sem.run_pure, Option.map_some, add_none]
                split <;> simp
              · simp only [VR]; exact ⟨q, hq, by simp; omega, by simp⟩
            · split at hs
              · next e1 e2 e3 =>
                cases hs
                subst e3
                simp only [Instr.sliceAt, Instr.slice, run_under hu, Sem.run_bind, Result.andThen_ok, hB.1, run_size hn, Sem.run_pure, Option.map_some, add_none, Nat.sub_self]
                by_cases e4 : (q.sz - off) / q.es = hh
                · rw [if_pos e4]; exact ⟨_, rfl, ro_nil⟩
                · rw [if_neg e4]; exact ⟨_, rfl, ro_nil⟩
              · cases hs
        · cases hs
      · cases hs
    · cases hs
  · next e hu =>
    split at hs
    · next n hn =>
      simp only [Option.map_eq_some_iff, Prod.exists] at hs
      obtain ⟨l, hh, hb, rfl⟩ := hs
      simp only [VR] at hx; subst hx
      have hB := bounds_ok (P := P) (w := w) (sl := true) (cap := 0) hb (fun k hk => by simpa using hk) (Nat.le_refl _) hlo hhi
      have hl0 : l = 0 := by omega
      have hh0 : hh = 0 := by omega
      subst hl0; subst hh0
      refine ⟨.slice none 0 0, ?_, by simp [VR]⟩
      simp only [Instr.sliceAt, Instr.slice, run_under hu, Sem.run_bind, Result.andThen_ok, hB.1, run_size hn, Sem.run_pure, if_true, Nat.sub_self]
    · cases hs
  · next e es hu =>
    split at hs
    · next size hn =>
      simp only [Option.bind_eq_some_iff, Prod.exists] at hs
      obtain ⟨l, hh, hb, hs⟩ := hs
      have hx0 := hx
      simp only [VR] at hx
      rcases hx with ⟨rfl, rfl⟩ | ⟨bl, off, c, xs, sz, rfl, hc, h1, h2, h3⟩
      · have hB := bounds_ok (P := P) (w := w) (sl := true) (cap := 0) hb (fun k hk => by simpa using hk) (Nat.le_refl _) hlo hhi
        have hl0 : l = 0 := by omega
        have hh0 : hh = 0 := by omega
        subst hl0; subst hh0
        simp [aRoSlice] at hs
        subst hs
        refine ⟨.slice none 0 0, ?_, by simp [VR]⟩
        have hB1 := hB.1
        rw [List.length_nil] at hB1
        simp only [Instr.sliceAt, Instr.slice, run_under hu, Sem.run_bind, Result.andThen_ok, hB1, run_size hn, Sem.run_pure, if_true, Nat.sub_self]
      have hB := bounds_ok (P := P) (w := w) (sl := true) (cap := c) hb (fun k hk => by simp at hk; omega) hc hlo hhi
      have hhl := aBounds_le hb (fun k hk => by simpa using hk)
      simp only [Instr.sliceAt, Instr.slice, run_under hu, Sem.run_bind, Result.andThen_ok, hB.1, run_size hn, Sem.run_pure, Option.map_some, add_none]
      unfold aRoSlice at hs
      split at hs
      · next e1 =>
        cases hs; subst e1
        simp only [Nat.sub_self]
        by_cases e4 : c = hh
        · rw [if_pos e4]; exact ⟨_, rfl, ro_nil⟩
        · rw [if_neg e4]; exact ⟨_, rfl, ro_nil⟩
      · next e1 =>
        split at hs
        · next a ha =>
          split at hs
          · next hsz =>
            cases hs
            obtain ⟨x, hxx, hvx⟩ := h1.at ha
            have hsx := h2 x (List.mem_of_getElem? hxx)
            have : sz = size := by rw [← hsx, ← cells_length hvx, hsz]
            subst this
            obtain ⟨cs, elem, fr, h4, h5, h6⟩ := h3 (by intro e; subst e; simp at ha)
            rw [if_neg (by omega)]
            refine ⟨_, rfl, ?_⟩
            have hlen := h1.length
            simp only [VR]
            right
            refine ⟨bl, off + l * sz, c - l, (xs.take hh).drop l, sz, by congr 1; simp; omega, by simp; omega, (h1.take hh).drop l, fun y hy => h2 y (List.mem_of_mem_take (List.mem_of_mem_drop hy)), fun _ => ⟨cs, elem, fr, h4, ?_, ?_⟩⟩
            · rw [cellsL_length (fun y hy => h2 y (List.mem_of_mem_take (List.mem_of_mem_drop hy)))]
              have hL := cellsL_length h2
              have hm : ((xs.take hh).drop l).length = hh - l := by simp; omega
              rw [hm]
              have h7 : l * sz + (hh - l) * sz = hh * sz := by rw [← Nat.add_mul]; congr 1; omega
              have h8 : hh * sz ≤ xs.length * sz := Nat.mul_le_mul_right _ (by omega)
              omega
            · intro k y hk
              rw [← cellsL_drop (fun y hy => h2 y (List.mem_of_mem_take hy)), ← cellsL_take h2, List.getElem?_drop, List.getElem?_take] at hk
              split at hk
              · have := h6 _ _ hk; rw [← Nat.add_assoc] at this; exact this
              · cases hk
          · cases hs
        · cases hs
    · cases hs
  · cases hs

end
end Go.Abs
