/- The prims of all runs. -/
import Derived.Test.YtckgelanagoenaaGreatDoorKOk23
import Derived.Test.YtckgelanagoenaaGreatDoorKHAD
namespace Go.Proofs.YtckgelanagoenaaGreatDoor
open Go Go.Abs
set_option maxRecDepth 100000
set_option linter.unusedVariables false
set_option linter.unusedSimpArgs false
namespace HA
theorem awake49_in (T : TabsOf) (hT : T.tabs = tabsL) : @PrimOk T Tryz.prog 49 pClosed := pClosed_of fun ro w h => by
  obtain ⟨σ', hs⟩ := isT_some run23
  exact closed_run (call_ok pl22_ok 1000000) σ0_start hs (by rw [hT] at h; exact h)
theorem pNoEscape_in (T : TabsOf) (_ : T.tabs = tabsL) : @PrimOk T Tryz.prog 222 pNoEscape := by letI := T; exact pNoEscape_ok x222
theorem pl_ok (I : Itp) (hI : ∀ k gs out, I k gs = some out → C k gs out) : PListOk Tryz.prog tabsL I pl :=
  PL.ok_call (fun gs out h => hI 4 gs out h) (PL.ok_call (fun gs out h => hI 2 gs out h) (PL.ok_call (fun gs out h => hI 15 gs out h) (PL.ok_call (fun gs out h => hI 0 gs out h) (PL.ok_call (fun gs out h => hI 16 gs out h) (PL.ok_call (fun gs out h => hI 21 gs out h) (PL.ok_call (fun gs out h => hI 13 gs out h) (PL.ok_call (fun gs out h => hI 8 gs out h) (PL.ok_call (fun gs out h => hI 6 gs out h) (PL.ok_call (fun gs out h => hI 7 gs out h) (PL.ok_call (fun gs out h => hI 20 gs out h) (PL.ok_call (fun gs out h => hI 1 gs out h) (PL.ok_call (fun gs out h => hI 19 gs out h) (PL.ok_call (fun gs out h => hI 17 gs out h) (PL.ok_call (fun gs out h => hI 12 gs out h) (PL.ok_call (fun gs out h => hI 22 gs out h) (PL.ok_cons (fun T hT hI => awake49_in T hT) (PL.ok_cons (fun T hT hI => pNoEscape_in T hT) (PL.ok_nil))))))))))))))))))
end HA
end Go.Proofs.YtckgelanagoenaaGreatDoor
