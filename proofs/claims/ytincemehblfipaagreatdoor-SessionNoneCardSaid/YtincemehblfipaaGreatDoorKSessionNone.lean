/- The law SessionNone holds: it has no parameters, and the evaluator's run of the whole call says true. Condition: the row's own two tables. -/
import Derived.Test.YtincemehblfipaaGreatDoorKSessionNoneLift
import Derived.Test.YtincemehblfipaaGreatDoorKSessionNoneFacts
namespace Go.Proofs.YtincemehblfipaaGreatDoor
open Go.ChangeShapes Go.WideShapes Go.ChangeAt Go.RowKit Go.Abs
set_option maxRecDepth 100000
namespace SessionNone

theorem said : Rows.SessionNoneSaid :=
  OpenClaim.holds_of_cond 7 Tryz.f7 rfl rfl rfl rfl rfl rfl rfl ⟨rfl, rfl, rfl, rfl, rfl⟩ rfl rfl rfl rfl rfl named Tryz.func7 joined
    inst wrap
    (fun os started H enc _ F => by rw [OpenClaim.pre_eq_preRow]; exact lifted os started H enc F)

theorem card : Rows.SessionNoneCardSaid :=
  Claim7.holds_tied_plain_at .later [] _ _ _ _ said (fun _ h => by cases h) (by as_aux_lemma => kernel_rfl) (fun _ h => by cases h) sessionNone_row_tie rfl ⟨rfl, rfl⟩ (by as_aux_lemma => kernel_rfl) rfl plain (by as_aux_lemma => kernel_rfl)
end SessionNone
#print axioms SessionNone.card
end Go.Proofs.YtincemehblfipaaGreatDoor
