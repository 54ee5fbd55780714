/- What the row of KindsRise says of the program's form. -/
import Derived.Test.YtjpgiloggpfehaaGreatDoorKRBase
namespace Go.Proofs.YtjpgiloggpfehaaGreatDoor
open Go.ChangeShapes Go.WideShapes Go.ChangeAt Go.RowKit Go.Abs
set_option maxRecDepth 100000
namespace KindsRise

theorem named : Tryz.prog.funcNamed "postmark/postmarklaw17.KindsRise" = some 13 := by kernel_rfl
set_option maxHeartbeats 4000000 in
theorem joined : joinedFacts Tryz.prog 13 Tryz.f13 (OpenSpec.ofChange Rows.kindsRiseSpec).bare Rows.kindsRiseRow = true := by
  unfold joinedFacts
  repeat' (with_reducible apply and_mk)
  all_goals (as_aux_lemma => kernel_rfl)
theorem inst : Tryz.f13.isInstance Tryz.prog Rows.kindsRiseRow.origin Rows.kindsRiseRow.targs := of_decide_eq_true (by kernel_rfl)
theorem wrap : Tryz.f13.isWrapper Tryz.prog Rows.kindsRiseRow.wrapper Rows.kindsRiseRow.mainSum := by
  unfold Func.isWrapper; first | (rw [if_pos (by decide +kernel)]; kernel_rfl) | (rw [if_neg (by decide +kernel)]; exact ⟨rfl, rfl⟩)

theorem looks : false = Tryz.pinned.checked.prog.looks [] := by kernel_rfl
theorem plain (f : FuncId) (fn : Func) (hf : Tryz.pinned.checked.prog.funcNamed "postmark/postmarklaw17.KindsRise" = some f) (hfn : Tryz.pinned.checked.prog.funcs[f]? = some fn) :
    false = Tryz.pinned.checked.prog.looks [] ∧ ∀ (j : Nat) t, fn.params[j]? = some t → Tryz.pinned.checked.prog.wantsStandIn t = false := by
  obtain rfl : f = 13 := Option.some.inj (named.symm.trans hf) |>.symm
  obtain rfl : fn = Tryz.f13 := (Option.some.inj (Tryz.func13.symm.trans hfn)).symm
  refine ⟨looks, fun j t ht => ?_⟩
  rw [Tryz.params13] at ht
  simp at ht

end KindsRise
end Go.Proofs.YtjpgiloggpfehaaGreatDoor
