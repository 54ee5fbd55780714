/- The law QueueOnce holds: what its call computes is told by a tree of values, proved of the program by a run of its ways, and the tree says true for all values. Conditions: the row's own two tables, and its reach. -/
import Derived.Test.YtckgelanagoenaaGreatDoorKQueueOnceLift
import Derived.Test.YtckgelanagoenaaGreatDoorKQueueOnceFacts
namespace Go.Proofs.YtckgelanagoenaaGreatDoor
open Go.ChangeShapes Go.WideShapes Go.ChangeAt Go.RowKit Go.Abs
set_option maxRecDepth 100000
namespace QueueOnce

theorem said : Rows.QueueOnceSaid :=
  OpenClaim.holds_of_cond 6 Tryz.f6 rfl rfl rfl rfl rfl rfl rfl ⟨rfl, rfl, rfl, rfl, rfl⟩ rfl rfl rfl rfl rfl named Tryz.func6 joined
    inst wrap
    (fun os started H enc _ F => by rw [OpenClaim.pre_eq_preRow]; exact lifted os started H enc F)

theorem card : Rows.QueueOnceCardSaid :=
  Claim7.holds_tied_plain_at .later [] _ _ _ _ said (fun _ h => by cases h) (by as_aux_lemma => kernel_rfl) (fun _ h => by cases h) queueOnce_row_tie rfl ⟨rfl, rfl⟩ (by as_aux_lemma => kernel_rfl) rfl plain (by as_aux_lemma => kernel_rfl)
end QueueOnce
#print axioms QueueOnce.card
end Go.Proofs.YtckgelanagoenaaGreatDoor
