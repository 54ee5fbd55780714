/- The law KindsTell holds: its three integers are split into cases, and in each the evaluator's run of the whole call says true. Condition: the row's own two tables. -/
import Derived.Test.YtjpgiloggpfehaaGreatDoorKTellLift
import Derived.Test.YtjpgiloggpfehaaGreatDoorKTellFacts
namespace Go.Proofs.YtjpgiloggpfehaaGreatDoor
open Go.ChangeShapes Go.WideShapes Go.ChangeAt Go.RowKit Go.Abs
set_option maxRecDepth 100000
namespace KindsTell

theorem said : Rows.KindsTellSaid :=
  OpenClaim.holds_of_cond 14 Tryz.f14 rfl rfl rfl rfl rfl rfl rfl ⟨rfl, rfl, rfl, rfl, rfl⟩ rfl rfl rfl rfl rfl named Tryz.func14 joined
    inst wrap
    (fun os started H enc _ F => by rw [OpenClaim.pre_eq_preRow]; exact lifted os started H enc F)

theorem card : Rows.KindsTellCardSaid :=
  Claim7.holds_tied_plain_at .later [] _ _ _ _ said (fun _ h => by cases h) (by as_aux_lemma => kernel_rfl) (fun _ h => by cases h) kindsTell_row_tie rfl ⟨rfl, rfl⟩ (by as_aux_lemma => kernel_rfl) rfl plain (by as_aux_lemma => kernel_rfl)
end KindsTell
#print axioms KindsTell.card
end Go.Proofs.YtjpgiloggpfehaaGreatDoor
