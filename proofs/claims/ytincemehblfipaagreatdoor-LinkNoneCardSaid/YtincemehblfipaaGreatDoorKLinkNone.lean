/- The law LinkNone holds: it has no parameters, and the evaluator's run of the whole call says true. Condition: the row's own two tables. -/
import Derived.Test.YtincemehblfipaaGreatDoorKLinkNoneLift
import Derived.Test.YtincemehblfipaaGreatDoorKLinkNoneFacts
namespace Go.Proofs.YtincemehblfipaaGreatDoor
open Go.ChangeShapes Go.WideShapes Go.ChangeAt Go.RowKit Go.Abs
set_option maxRecDepth 100000
namespace LinkNone

theorem said : Rows.LinkNoneSaid :=
  OpenClaim.holds_of_cond 4 Tryz.f4 rfl rfl rfl rfl rfl rfl rfl ⟨rfl, rfl, rfl, rfl, rfl⟩ rfl rfl rfl rfl rfl named Tryz.func4 joined
    inst wrap
    (fun os started H enc _ F => by rw [OpenClaim.pre_eq_preRow]; exact lifted os started H enc F)

theorem card : Rows.LinkNoneCardSaid :=
  Claim7.holds_tied_plain_at .later [] _ _ _ _ said (fun _ h => by cases h) (by as_aux_lemma => kernel_rfl) (fun _ h => by cases h) linkNone_row_tie rfl ⟨rfl, rfl⟩ (by as_aux_lemma => kernel_rfl) rfl plain (by as_aux_lemma => kernel_rfl)
end LinkNone
#print axioms LinkNone.card
end Go.Proofs.YtincemehblfipaaGreatDoor
