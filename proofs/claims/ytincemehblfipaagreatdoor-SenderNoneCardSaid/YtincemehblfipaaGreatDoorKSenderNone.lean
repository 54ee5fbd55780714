/- The law SenderNone holds: it has no parameters, and the evaluator's run of the whole call says true. Condition: the row's own two tables. -/
import Derived.Test.YtincemehblfipaaGreatDoorKSenderNoneLift
import Derived.Test.YtincemehblfipaaGreatDoorKSenderNoneFacts
namespace Go.Proofs.YtincemehblfipaaGreatDoor
open Go.ChangeShapes Go.WideShapes Go.ChangeAt Go.RowKit Go.Abs
set_option maxRecDepth 100000
namespace SenderNone

theorem said : Rows.SenderNoneSaid :=
  OpenClaim.holds_of_cond 5 Tryz.f5 rfl rfl rfl rfl rfl rfl rfl ⟨rfl, rfl, rfl, rfl, rfl⟩ rfl rfl rfl rfl rfl named Tryz.func5 joined
    inst wrap
    (fun os started H enc _ F => by rw [OpenClaim.pre_eq_preRow]; exact lifted os started H enc F)

theorem card : Rows.SenderNoneCardSaid :=
  Claim7.holds_tied_plain_at .later [] _ _ _ _ said (fun _ h => by cases h) (by as_aux_lemma => kernel_rfl) (fun _ h => by cases h) senderNone_row_tie rfl ⟨rfl, rfl⟩ (by as_aux_lemma => kernel_rfl) rfl plain (by as_aux_lemma => kernel_rfl)
end SenderNone
#print axioms SenderNone.card
end Go.Proofs.YtincemehblfipaaGreatDoor
