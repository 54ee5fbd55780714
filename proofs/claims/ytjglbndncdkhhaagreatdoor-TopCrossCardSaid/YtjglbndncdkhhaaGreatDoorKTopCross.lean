/- The law TopCross holds: what its call computes is told by a tree of values, proved of the program by a run of its ways, and the tree says true for all values. Conditions: the row's own two tables, and its reach. -/
import Derived.Test.YtjglbndncdkhhaaGreatDoorKTopCrossLift
import Derived.Test.YtjglbndncdkhhaaGreatDoorKTopCrossFacts
namespace Go.Proofs.YtjglbndncdkhhaaGreatDoor
open Go.ChangeShapes Go.WideShapes Go.ChangeAt Go.RowKit Go.aN
set_option maxRecDepth 100000
namespace TopCross
theorem said:Rows.TopCrossSaid:=
 OpenClaim.holds_of_cond 3 Tryz.f3 rfl rfl rfl rfl rfl rfl rfl ⟨rfl,rfl,rfl,rfl,rfl⟩ rfl rfl rfl rfl rfl named Tryz.func3 joined
  inst wrap
  (λos started H enc _ F=>by rw [OpenClaim.pre_eq_preRow];exact lifted os started H enc F)
theorem card:Rows.TopCrossCardSaid:=
 Claim7.holds_tied_plain_at .later [] _ _ _ _ said (λ_ h=>by cases h) (by as_aux_lemma=>kernel_rfl) (λ_ h=>by cases h) topCross_row_tie rfl ⟨rfl,rfl⟩ (by as_aux_lemma=>kernel_rfl) rfl plain (by as_aux_lemma=>kernel_rfl)
end TopCross
#print axioms TopCross.card
end Go.Proofs.YtjglbndncdkhhaaGreatDoor
