/- The contract of KindsTell, and a witness. -/
import Derived.Test.YtjpgiloggpfehaaGreatDoorKTellRun
namespace Go.Proofs.YtjpgiloggpfehaaGreatDoor
open Go.ChangeShapes Go.WideShapes Go.ChangeAt Go.RowKit Go.Abs
set_option maxRecDepth 100000
namespace KindsTell

theorem pick3 {l : List AV} {p : AV → Bool} (h : l.all p = true) {a : AV} (ha : a ∈ l) : p a = true := List.all_eq_true.1 h a ha

theorem kinds_all {η : Env} (k : Int) (h0 : minI ≤ k) (h1 : k ≤ maxI) : ∃ a, good a = true ∧ VR η a (.int .i64 k) := by
  have zc : ∀ lo hi : Int, lo ≤ k → k ≤ hi → VR η (.z .i64 lo hi) (.int .i64 k) := fun lo hi a b => by simp only [VR]; exact ⟨k, a, b, rfl⟩
  have ic : VR η (.i .i64 k) (.int .i64 k) := by simp only [VR]
  by_cases h : k ≤ 0
  · exact ⟨_, run0, zc _ _ h0 h⟩
  by_cases h : 9 ≤ k
  · exact ⟨_, run9, zc _ _ h h1⟩
  have : k = 1 ∨ k = 2 ∨ k = 3 ∨ k = 4 ∨ k = 5 ∨ k = 6 ∨ k = 7 ∨ k = 8 := by omega
  rcases this with rfl | rfl | rfl | rfl | rfl | rfl | rfl | rfl
  · exact ⟨_, run1, ic⟩
  · exact ⟨_, run2, ic⟩
  · exact ⟨_, run3, ic⟩
  · exact ⟨_, run4, ic⟩
  · exact ⟨_, run5, ic⟩
  · exact ⟨_, run6, ic⟩
  · exact ⟨_, run7, ic⟩
  · exact ⟨_, run8, ic⟩
theorem versions_all {η : Env} (k : Int) (h0 : minI ≤ k) (h1 : k ≤ maxI) : ∃ a ∈ versions, VR η a (.int .i64 k) := by
  have zc : ∀ lo hi : Int, lo ≤ k → k ≤ hi → VR η (.z .i64 lo hi) (.int .i64 k) := fun lo hi a b => by simp only [VR]; exact ⟨k, a, b, rfl⟩
  have ic : VR η (.i .i64 k) (.int .i64 k) := by simp only [VR]
  by_cases h : k ≤ 0
  · exact ⟨_, by simp [versions], zc minI 0 h0 h⟩
  by_cases h : 4 ≤ k
  · exact ⟨_, by simp [versions], zc 4 maxI h h1⟩
  have : k = 1 ∨ k = 2 ∨ k = 3 := by omega
  rcases this with rfl | rfl | rfl
  all_goals exact ⟨_, by simp [versions], ic⟩
theorem uses_all {η : Env} (k : Int) (h0 : minI ≤ k) (h1 : k ≤ maxI) : ∃ a ∈ uses, VR η a (.int .i64 k) := by
  have zc : ∀ lo hi : Int, lo ≤ k → k ≤ hi → VR η (.z .i64 lo hi) (.int .i64 k) := fun lo hi a b => by simp only [VR]; exact ⟨k, a, b, rfl⟩
  have ic : VR η (.i .i64 k) (.int .i64 k) := by simp only [VR]
  by_cases h : k ≤ -1
  · exact ⟨_, by simp [uses], zc minI (-1) h0 h⟩
  by_cases h : 6 ≤ k
  · exact ⟨_, by simp [uses], zc 6 maxI h h1⟩
  have : k = 0 ∨ k = 1 ∨ k = 2 ∨ k = 3 ∨ k = 4 ∨ k = 5 := by omega
  rcases this with rfl | rfl | rfl | rfl | rfl | rfl
  all_goals exact ⟨_, by simp [uses], ic⟩
theorem all_runs {η : Env} (k v u : Int) (hk : minI ≤ k ∧ k ≤ maxI) (hv : minI ≤ v ∧ v ≤ maxI) (hu : minI ≤ u ∧ u ≤ maxI) :
    ∃ a b c, isT (call pl17 100000 14 [a, b, c] σ0) = true ∧ VRs η [a, b, c] [.int .i64 k, .int .i64 v, .int .i64 u] := by
  obtain ⟨a, h1, h2⟩ := kinds_all (η := η) k hk.1 hk.2
  obtain ⟨b, h3, h4⟩ := versions_all (η := η) v hv.1 hv.2
  obtain ⟨c, h5, h6⟩ := uses_all (η := η) u hu.1 hu.2
  exact ⟨a, b, c, pick3 (pick3 h1 h3) h5, VRs.cons h2 (VRs.cons h4 (VRs.cons h6 (by simp [VRs])))⟩
theorem bounds64 {n : Int} (h : (Lit.int .i64 n).wf = true) : minI ≤ n ∧ n ≤ maxI := by
  simp [Lit.wf, IntKind.min, IntKind.max, IntKind.signed, IntKind.bits] at h
  unfold minI maxI
  omega

theorem contract (H : Type) (enc : TypeId × Value → H) (W : World) (base : Nat) (args : Array Value) (ds gs : List (DataW H)) (before : List MemPlace)
    (hval : ∀ (j : Nat) t v, Tryz.f14.params[j]? = some t → args[j]? = some v → Value.okWide Tryz.prog W .any base t v)
    (hW : DataW.Whole enc Tryz.prog Tryz.f14.params.toList Rows.kindsTellSpec.vars false W args.toList ds gs before) (hL : laidMetH Tryz.prog Rows.kindsTellRow.laid W) :
    Calls Tryz.prog 14 args W fun e W' => ∃ v, e = .returned v ∧ Rows.kindsTellSpec.post enc Tryz.prog Tryz.f14 false true false false W args v W' := by
  have hW' := hW
  obtain ⟨p, q, hA, hV, rfl, hfz, hnd⟩ := hW
  rw [Tryz.params14] at hA hval
  obtain ⟨v0, v1, v2, d0, d1, d2, p0, p1, p2, rfl, rfl, rfl, h0, h1, h2⟩ := trodAll_three hA
  obtain ⟨rfl, rfl⟩ := trodVars_none hV
  clear hA
  obtain ⟨n0, rfl, rfl, rfl, w0⟩ := open_int Tryz.underlying3 (hval 0 3 _ rfl rfl) h0
  obtain ⟨n1, rfl, rfl, rfl, w1⟩ := open_int Tryz.underlying3 (hval 1 3 _ rfl rfl) h1
  obtain ⟨n2, rfl, rfl, rfl, w2⟩ := open_int Tryz.underlying3 (hval 2 3 _ rfl rfl) h2
  simp only [List.append_nil] at hW'
  obtain ⟨a, b, c, hrun, hvr⟩ := all_runs (η := η0 W) n0 n1 n2 (bounds64 w0) (bounds64 w1) (bounds64 w2)
  refine Calls.mono' (calls_true pl17_ok (vs := [.int .i64 n0, .int .i64 n1, .int .i64 n2]) Tryz.func14 (by kernel_rfl) hrun (tabs hL) hvr) ?_
  rintro e W' ⟨he, hk⟩
  exact ⟨_, he, post_of_kept (pa := []) (pv := []) hW' (fun _ _ _ => trodAll_cons_mk (shut_bool Tryz.underlying4 _) trodAll_mk0) (fun _ _ => trodAll_cons_mk (shut_int Tryz.underlying3 w0) (trodAll_cons_mk (shut_int Tryz.underlying3 w1) (trodAll_cons_mk (shut_int Tryz.underlying3 w2) trodAll_mk0))) (fun _ _ => rfl) rfl hk
    (ok_one (by kernel_rfl) rfl (okWide_bool_mk Tryz.underlying4 _))⟩

abbrev wArgs : Array Value := #[.int .i64 0, .int .i64 0, .int .i64 0]
theorem laid_met (os : Os) : laidMet Tryz.prog Rows.kindsTellRow.laid ((laidWorld os).forCall (fun _ _ => 0) ⟨#[], wArgs, []⟩).memory :=
  laidMet_of_run' 8 (by kernel_rfl) (by kernel_rfl)
theorem reads (os : Os) {H : Type} (enc : TypeId × Value → H) : ∃ places, DataW.whole enc Tryz.prog ((laidWorld os).forCall (fun _ _ => 0) ⟨#[], wArgs, []⟩).memory Tryz.f14.params.toList Rows.kindsTellSpec.vars false wArgs.toList 8 = some ([.lit (.int .i64 0), .lit (.int .i64 0), .lit (.int .i64 0)], [], places) :=
  ⟨[], by kernel_rfl⟩

theorem lifted (os : Os) (started : os.Started) (H : Type) (enc : TypeId × Value → H) (F : Stop.Interp) :
    ReturnsInHanded {} Tryz.checked os 14 .any ((OpenSpec.ofChange Rows.kindsTellSpec).preRow enc Tryz.prog Tryz.f14 Rows.kindsTellRow.domain false Rows.kindsTellRow.laid) (((OpenSpec.ofChange Rows.kindsTellSpec).at F).post enc Tryz.prog Tryz.f14 false true false false) := by
  obtain ⟨places, hx⟩ := reads os enc
  refine returnsInHanded_of_row (C := Tryz.checked) (s := OpenSpec.ofChange Rows.kindsTellSpec) own started (by as_aux_lemma => kernel_rfl) Tryz.func14
    (witness_row_at (enc := enc) (C := Tryz.checked) false (laidWorld os) wArgs rfl (by as_aux_lemma => kernel_rfl) (by as_aux_lemma => kernel_rfl) (by as_aux_lemma => kernel_rfl)
      (OpenSpec.preRow_of_cond 8 hx (by as_aux_lemma => kernel_rfl) (fun k hk => by cases hk) (by as_aux_lemma => kernel_rfl) (laid_met os))) ?_
  intro W base args ds gs before hval hW _ _ _ hL _ _
  exact contract H enc W base args ds gs before hval hW hL

end KindsTell
end Go.Proofs.YtjpgiloggpfehaaGreatDoor
