/- The law ReceiverNone holds: it has no parameters, and the evaluator's run of the whole call says true. Condition: the row's own two tables. -/
import Derived.Test.YtincemehblfipaaGreatDoorKReceiverNoneLift
import Derived.Test.YtincemehblfipaaGreatDoorKReceiverNoneFacts
namespace Go.Proofs.YtincemehblfipaaGreatDoor
open Go.ChangeShapes Go.WideShapes Go.ChangeAt Go.RowKit Go.Abs
set_option maxRecDepth 100000
namespace ReceiverNone

theorem said : Rows.ReceiverNoneSaid :=
  OpenClaim.holds_of_cond 6 Tryz.f6 rfl rfl rfl rfl rfl rfl rfl ⟨rfl, rfl, rfl, rfl, rfl⟩ rfl rfl rfl rfl rfl named Tryz.func6 joined
    inst wrap
    (fun os started H enc _ F => by rw [OpenClaim.pre_eq_preRow]; exact lifted os started H enc F)

theorem card : Rows.ReceiverNoneCardSaid :=
  Claim7.holds_tied_plain_at .later [] _ _ _ _ said (fun _ h => by cases h) (by as_aux_lemma => kernel_rfl) (fun _ h => by cases h) receiverNone_row_tie rfl ⟨rfl, rfl⟩ (by as_aux_lemma => kernel_rfl) rfl plain (by as_aux_lemma => kernel_rfl)
end ReceiverNone
#print axioms ReceiverNone.card
end Go.Proofs.YtincemehblfipaaGreatDoor
