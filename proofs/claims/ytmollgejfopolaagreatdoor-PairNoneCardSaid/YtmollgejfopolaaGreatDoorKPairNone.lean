/- The law PairNone holds: it has no parameters, and the evaluator's run of the whole call says true. Condition: the row's own two tables. -/
import Derived.Test.YtmollgejfopolaaGreatDoorKPairNoneLift
import Derived.Test.YtmollgejfopolaaGreatDoorKPairNoneFacts
namespace Go.Proofs.YtmollgejfopolaaGreatDoor
open Go.ChangeShapes Go.WideShapes Go.ChangeAt Go.RowKit Go.Abs
set_option maxRecDepth 100000
namespace PairNone

theorem said : Rows.PairNoneSaid :=
  OpenClaim.holds_of_cond 3 Tryz.f3 rfl rfl rfl rfl rfl rfl rfl ⟨rfl, rfl, rfl, rfl, rfl⟩ rfl rfl rfl rfl rfl named Tryz.func3 joined
    inst wrap
    (fun os started H enc _ F => by rw [OpenClaim.pre_eq_preRow]; exact lifted os started H enc F)

theorem card : Rows.PairNoneCardSaid :=
  Claim7.holds_tied_plain_at .later [] _ _ _ _ said (fun _ h => by cases h) (by as_aux_lemma => kernel_rfl) (fun _ h => by cases h) pairNone_row_tie rfl ⟨rfl, rfl⟩ (by as_aux_lemma => kernel_rfl) rfl plain (by as_aux_lemma => kernel_rfl)
end PairNone
#print axioms PairNone.card
end Go.Proofs.YtmollgejfopolaaGreatDoor
