/- append, make, copy, conversions. -/
import Derived.Test.YtincemehblfipaaGreatDoorAbsOps7
import Derived.Laws.IdiomCopy
namespace Go.Abs
noncomputable section
variable [TabsOf]
set_option linter.unusedSectionVars false
set_option linter.unusedVariables false
set_option linter.unusedSimpArgs false
variable {P : Program} {η : Env} {σ σ' : ASt} {w : World}

theorem arr2 {α : Type} {ts : Array α} {a b : α} (h : ts.toList = [a, b]) : ts = #[a, b] := by
  cases ts; simp at h; subst h; rfl

theorem storeCells_setCells {bl off : Nat} {xs : List Value} {w' : World} {cs : Array Value} {elem : TypeId} {fr : Nat × Nat} (hb : w.heap[bl]? = some (.cells cs elem fr)) (hfit : off + xs.length ≤ cs.size)
    (hfr : ∀ k, off ≤ k → k < off + xs.length → ¬ (fr.1 ≤ k ∧ k < fr.2)) (hone : ∀ x ∈ xs, oneC x = true) (h : (storeCells ⟨bl, off, none⟩ xs).run P w = .ok () w') :
    (∀ j, j < xs.length → (w.cell? ⟨bl, off + j, none⟩).isSome = true) ∧ (∀ j, j < xs.length → w.frozen? ⟨bl, off + j, none⟩ = false) ∧ w.setCells bl off xs = w' := by
  have h1 : ∀ j, j < xs.length → (w.cell? ⟨bl, off + j, none⟩).isSome = true := fun j hj => by
    rw [cell_eq hb]
    have : off + j < cs.size := by omega
    simp [this]
  have h2 : ∀ j, j < xs.length → w.frozen? ⟨bl, off + j, none⟩ = false := fun j hj => by
    rw [frozen_eq hb]; have := hfr (off + j) (by omega) (by omega); simpa using this
  refine ⟨h1, h2, ?_⟩
  have h3 := run_storeCells_cells (P := P) bl off xs 0 w (by simpa using h1) (by simpa using h2) (fun v hv => by rw [oneC_eq]; exact hone v hv)
  rw [h] at h3
  simp only [Nat.add_zero, Result.ok.injEq] at h3
  exact h3.2.symm

theorem append_none {t t1 ty e : TypeId} {size : Nat} {x : Value} (hu : P.underlying t = some (.slice e)) (hn : sizeT P e = some size) (hsrc : Src P size t1 x 0 [] w) :
    (Builtin.append_ #[t, t1] ty #[.slice none 0 0, x]).run P w = .ok (.slice none 0 0) w := by
  have hc := hsrc.cells
  rcases hsrc.kind with ⟨e', hk⟩ | hk <;> simp [Builtin.append_, run_under hu, run_under hk, run_size hn, hsrc.len, hc]

set_option maxHeartbeats 1000000 in
theorem append_ok (h : SR P η σ w) {ts : Array TypeId} {ty : TypeId} {s x v : AV} {u u' : Value} (hs : aAppend P ts s x σ = some (v, σ')) (hu : VR η s u) (hx : VR η x u') :
    ∃ y w' η', (Builtin.append_ ts ty #[u, u']).run P w = .ok y w' ∧ St P η σ w η' σ' w' ∧ VR η' v y := by
  unfold aAppend at hs
  split at hs
  · next t t1 hts =>
    have := arr2 hts; subst this
    split at hs
    · next e size bytes z hi hsrcT =>
      split at hs
      · next n new hsrc =>
        split at hs
        · cases hs
        · next hc =>
          simp only [not_or, Decidable.not_not, Bool.not_eq_false] at hc
          obtain ⟨h0, hone, hb1, hb2⟩ := hc
          obtain ⟨hut, ⟨i, hinf, hsz, hby⟩, hz, he, hzl, hn⟩ := elemInfo_some hi
          obtain ⟨ys, hS, hys⟩ := src_ok h hsrcT hsrc hx hone
          obtain ⟨hnl, _, _⟩ := srcCells_ok h hsrc hx
          have hyl := hys.length
          split at hs
          · -- nil
            simp only [VR] at hu; subst hu
            simp only [sliceLen] at hb1 hb2
            split at hs
            · next hn0 =>
              cases hs; subst hn0
              have : ys = [] := by apply List.eq_nil_of_length_eq_zero; omega
              subst this
              exact ⟨_, w, η, append_none hut hn hS, St.refl h, by simp [VR]⟩
            · next hn0 =>
              cases hs
              have := grow_ok (ty := ty) (old := []) (os := []) (sLen := 0) (sCap := 0) (base := none) h hi hS hys (by simp [Builtin.firstCells]) (by simp [VRs]) (by simp) hnl h0 (by omega) (.inr (by simpa using hb1)) (by omega)
              simpa using this
          · -- a capacity that is known
            next id off len cap =>
            simp only [VR] at hu
            obtain ⟨q, hq, hle, rfl⟩ := hu
            simp only [Option.getD_some] at hle ⊢
            simp only [sliceLen] at hb1 hb2
            split at hs
            · next hroom =>
              split at hs
              · next hn0 =>
                cases hs; subst hn0
                have : ys = [] := by apply List.eq_nil_of_length_eq_zero; omega
                subst this
                subst hsz
                have := run_append_room_src w t t1 ty e i hut hinf q.bl (q.ba + off) len cap u' 0 [] hS hroom (by simp) (by simp)
                exact ⟨_, w, η, by simpa [setCells_nil] using this, St.refl h, by simp only [VR]; exact ⟨q, hq, by simpa using hle, rfl⟩⟩
              · split at hs
                · next c et opn hg =>
                  split at hs
                  · next hl =>
                    simp only [Option.map_eq_some_iff] at hs
                    obtain ⟨c', hr, e1⟩ := hs
                    cases e1
                    obtain ⟨w', hrun, hst⟩ := write_ok h hg hl hq hr hys hone
                    obtain ⟨q', hq', cs, elem, fr, hb, rr⟩ := h.obj _ _ hg
                    rw [hq] at hq'; cases hq'
                    obtain ⟨h5, _, _⟩ := setRange_some hr
                    have hfit := rr.fits; have hle2 := rr.le
                    obtain ⟨h6, h7, h8⟩ := storeCells_setCells (bl := q.bl) (off := q.ba + (off + len * size)) hb (by omega) (fun k a b => by
                      have := rr.free rfl (k - q.ba) (by omega)
                      rw [Nat.add_sub_cancel' (by omega)] at this; exact this) (all_one hys hone) hrun
                    subst hsz
                    have := run_append_room_src w t t1 ty e i hut hinf q.bl (q.ba + off) len cap u' n ys hS hroom (by simpa [Nat.add_assoc] using h6) (by simpa [Nat.add_assoc] using h7)
                    rw [Nat.add_assoc, h8] at this
                    exact ⟨_, w', η, this, hst, by simp only [VR]; exact ⟨q, hq, by simpa using hroom, rfl⟩⟩
                  · cases hs
                · cases hs
            · next hroom =>
              split at hs
              · next c et rw opn hg =>
                simp only [Option.map_eq_some_iff] at hs
                obtain ⟨old, ho, e1⟩ := hs
                cases e1
                obtain ⟨q', hq', cs, elem, fr, hb, rr⟩ := h.obj _ _ hg
                rw [hq] at hq'; cases hq'
                have hov := rr.takeVRs ho
                have hol := (takeN_some ho).2.1
                exact grow_ok (ty := ty) h hi hS hys (by simp only [Builtin.firstCells]; exact run_loadCells' hb (rr.take ho)) hov hol hnl h0 (by omega) (.inr hb1) hb2
              · cases hs
          · -- a capacity that is not known
            next id off len =>
            simp only [VR] at hu
            obtain ⟨q, hq, hle, rfl⟩ := hu
            simp only [Option.getD_none] at hle ⊢
            simp only [sliceLen] at hb1 hb2
            split at hs
            · next hn0 =>
              cases hs; subst hn0
              have : ys = [] := by apply List.eq_nil_of_length_eq_zero; omega
              subst this
              subst hsz
              have := run_append_room_src w t t1 ty e i hut hinf q.bl (q.ba + off) len ((q.sz - off) / q.es) u' 0 [] hS (by simpa using hle) (by simp) (by simp)
              exact ⟨_, w, η, by simpa [setCells_nil] using this, St.refl h, by simp only [VR]; exact ⟨q, hq, by simpa using hle, rfl⟩⟩
            · next hn0 =>
              split at hs
              · next hl =>
                split at hs
                · next c et hg =>
                  split at hs
                  · next het =>
                    simp only [Option.map_eq_some_iff] at hs
                    obtain ⟨old, ho, e1⟩ := hs
                    cases e1
                    subst het
                    obtain ⟨q', hq', cs, elem, fr, hb, rr⟩ := h.obj _ _ hg
                    rw [hq] at hq'; cases hq'
                    obtain ⟨_, hes, hsz2⟩ := rr.room rfl
                    rw [hn] at hsz2; cases hsz2
                    have hov := rr.takeVRs ho
                    obtain ⟨ho1, hol, ho3⟩ := takeN_some ho
                    have hfit := rr.fits; have hle2 := rr.le
                    by_cases hroom : len + n ≤ (q.sz - off) / q.es
                    · -- in place
                      have hcap : (len + n) * q.es ≤ q.sz - off := Nat.le_trans (Nat.mul_le_mul_right _ hroom) (Nat.div_mul_le_self _ _)
                      have hnpos : 0 < n * q.es := Nat.mul_pos (by omega) hes
                      rw [Nat.add_mul] at hcap
                      have hrun := run_storeCells (P := P) ys w q.bl (q.ba + (off + len * q.es)) 0 cs elem fr hb (by omega) (all_one hys hone) (fun k a b => by
                        have := rr.free rfl (k - q.ba) (by omega)
                        rw [Nat.add_sub_cancel' (by omega)] at this; exact this)
                      obtain ⟨h6, h7, h8⟩ := storeCells_setCells (bl := q.bl) (off := q.ba + (off + len * q.es)) hb (by omega) (fun k a b => by
                        have := rr.free rfl (k - q.ba) (by omega)
                        rw [Nat.add_sub_cancel' (by omega)] at this; exact this) (all_one hys hone) hrun
                      have hr := run_append_room_src w t t1 ty _ i hut hinf q.bl (q.ba + off) len ((q.sz - off) / q.es) u' n ys (by rw [hsz]; exact hS) hroom (by rw [hsz]; simpa [Nat.add_assoc] using h6) (by rw [hsz]; simpa [Nat.add_assoc] using h7)
                      rw [hsz, Nat.add_assoc, h8] at hr
                      refine ⟨_, _, _, hr, St.again (q' := ⟨q.bl, q.ba + off, q.sz - off, q.es⟩) h hg rfl hl hq rfl setBlk_size (fun k hk => setBlk_ne hk) rfl rfl rfl ?_, ?_⟩
                      · refine ⟨_, elem, fr, setBlk_at hb, ?_⟩
                        have hmono := Env.put_le h ⟨q.bl, q.ba + off, q.sz - off, q.es⟩
                        refine { fits := by rw [setFrom_size]; show q.ba + off + (q.sz - off) ≤ cs.size; omega, le := by show (old ++ new).length ≤ q.sz - off; rw [List.length_append, hol, hnl]; omega, shut := by simp, cell := ?_, free := ?_, whole := ?_, room := fun _ => ⟨he, hes, hn⟩ }
                        · intro k a hk
                          show ∃ x, (setFrom cs (q.ba + (off + len * q.es) + 0) ys)[q.ba + off + k]? = some x ∧ _
                          rw [Nat.add_zero, setFrom_get _ _ _ _ (by omega)]
                          by_cases hlt : k < len * q.es
                          · rw [List.getElem?_append_left (by omega)] at hk
                            obtain ⟨x1, hx1, hv1⟩ := rr.cell _ _ (takeN_at ho hk)
                            rw [if_neg (by omega)]
                            exact ⟨x1, by rw [← hx1]; congr 1; omega, VR.mono hmono _ _ hv1⟩
                          · rw [List.getElem?_append_right (by omega)] at hk
                            obtain ⟨x1, hx1, hv1⟩ := hys.at hk
                            have hkl : k - old.length < new.length := (List.getElem?_eq_some_iff.1 hk).1
                            rw [if_pos (by omega)]
                            exact ⟨x1, by rw [← hx1]; congr 1; omega, VR.mono hmono _ _ hv1⟩
                        · intro _ k hk
                          have hk' : k < q.sz - off := hk
                          have := rr.free rfl (off + k) (by omega)
                          show ¬ (fr.1 ≤ q.ba + off + k ∧ q.ba + off + k < fr.2)
                          rw [Nat.add_assoc]; exact this
                        · intro e1
                          obtain ⟨w1, w2, _⟩ := rr.whole e1
                          exact ⟨w1, by rw [setFrom_size]; show q.ba + off + (q.sz - off) = cs.size; omega, by simp⟩
                      · simp only [VR]
                        exact ⟨⟨q.bl, q.ba + off, q.sz - off, q.es⟩, by simp [Env.put], by simpa using hroom, by simp⟩
                    · -- a new row
                      obtain ⟨y, w', η', hr, hst, hv⟩ := grow_ok (ty := ty) (base := some ⟨q.bl, q.ba + off, none⟩) (sLen := len) (sCap := (q.sz - off) / q.es) h hi hS hys (by simp only [Builtin.firstCells]; exact run_loadCells' (w := w.drew) hb (rr.take ho)) hov hol hnl h0 (by omega) (.inr hb1) hb2
                      refine ⟨y, w', η', hr, hst.sub ?_ (Nat.le_refl _) rfl, hv⟩
                      intro id' o' hid
                      rw [ASt.get_new] at hid ⊢
                      split at hid
                      · next e1 => rw [if_pos (show id' = σ.next from e1)]; exact hid
                      · next e1 =>
                        rw [ASt.get_kill] at hid
                        rw [if_neg (show ¬ id' = σ.next from e1)]
                        split at hid
                        · cases hid
                        · exact hid
                  · cases hs
                · cases hs
              · cases hs
          · -- elements that nobody changes
            next es =>
            split at hs
            · next hn0 =>
              cases hs; subst hn0
              have hu0 := hu
              simp only [VR] at hu
              have : ys = [] := by apply List.eq_nil_of_length_eq_zero; omega
              subst this
              rcases hu with ⟨rfl, rfl⟩ | ⟨bl, off, c, xs, sz, rfl, hc, _⟩
              · exact ⟨_, w, η, append_none hut hn hS, St.refl h, by simpa using hu0⟩
              subst hsz
              have := run_append_room_src w t t1 ty e i hut hinf bl off es.length c u' 0 [] hS (by simpa using hc) (by simp) (by simp)
              exact ⟨_, w, η, by simpa [setCells_nil] using this, St.refl h, by simpa using hu0⟩
            · cases hs
          · cases hs
      · cases hs
    · cases hs
  · cases hs

end
end Go.Abs
