/- What the row of KindsTell says of the program's form. -/
import Derived.Test.YtjpgiloggpfehaaGreatDoorKRBase
namespace Go.Proofs.YtjpgiloggpfehaaGreatDoor
open Go.ChangeShapes Go.WideShapes Go.ChangeAt Go.RowKit Go.Abs
set_option maxRecDepth 100000
namespace KindsTell

theorem named : Tryz.prog.funcNamed "postmark/postmarklaw17.KindsTell" = some 14 := by kernel_rfl
set_option maxHeartbeats 4000000 in
theorem joined : joinedFacts Tryz.prog 14 Tryz.f14 (OpenSpec.ofChange Rows.kindsTellSpec).bare Rows.kindsTellRow = true := by
  unfold joinedFacts
  repeat' (with_reducible apply and_mk)
  all_goals (as_aux_lemma => kernel_rfl)
theorem inst : Tryz.f14.isInstance Tryz.prog Rows.kindsTellRow.origin Rows.kindsTellRow.targs := of_decide_eq_true (by kernel_rfl)
theorem wrap : Tryz.f14.isWrapper Tryz.prog Rows.kindsTellRow.wrapper Rows.kindsTellRow.mainSum := by
  unfold Func.isWrapper; first | (rw [if_pos (by decide +kernel)]; kernel_rfl) | (rw [if_neg (by decide +kernel)]; exact ⟨rfl, rfl⟩)

theorem looks : false = Tryz.pinned.checked.prog.looks [] := by kernel_rfl
theorem plain (f : FuncId) (fn : Func) (hf : Tryz.pinned.checked.prog.funcNamed "postmark/postmarklaw17.KindsTell" = some f) (hfn : Tryz.pinned.checked.prog.funcs[f]? = some fn) :
    false = Tryz.pinned.checked.prog.looks [] ∧ ∀ (j : Nat) t, fn.params[j]? = some t → Tryz.pinned.checked.prog.wantsStandIn t = false := by
  obtain rfl : f = 14 := Option.some.inj (named.symm.trans hf) |>.symm
  obtain rfl : fn = Tryz.f14 := (Option.some.inj (Tryz.func14.symm.trans hfn)).symm
  refine ⟨looks, fun j t ht => ?_⟩
  rw [Tryz.params14] at ht
  have h3 : Tryz.pinned.checked.prog.wantsStandIn 3 = false := by kernel_rfl
  have : t = 3 := by
    match j, ht with
    | 0, ht => simpa using ht.symm
    | 1, ht => simpa using ht.symm
    | 2, ht => simpa using ht.symm
    | j + 3, ht => simp at ht
  rw [this]; exact h3

end KindsTell
end Go.Proofs.YtjpgiloggpfehaaGreatDoor
