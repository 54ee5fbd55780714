/- The prims of all runs. -/
import Derived.Test.YtckgelanagoenaaGreatDoorKOk23
import Derived.Test.YtckgelanagoenaaGreatDoorKRD
import Derived.Test.YtckgelanagoenaaGreatDoorKCloneO
namespace Go.Proofs.YtckgelanagoenaaGreatDoor
open Go Go.Abs
set_option maxRecDepth 100000
set_option linter.unusedVariables false
set_option linter.unusedSimpArgs false
namespace R
theorem awake39_in (T : TabsOf) (hT : T.tabs = tabsL) : @PrimOk T Tryz.prog 39 pClosed := pClosed_of fun ro w h => by
  obtain ⟨σ', hs⟩ := isT_some run21
  exact closed_run (call_ok pl20_ok 1000000) σ0_start hs (by rw [hT] at h; exact h)
theorem pNoEscape_in (T : TabsOf) (_ : T.tabs = tabsL) : @PrimOk T Tryz.prog 222 pNoEscape := by letI := T; exact pNoEscape_ok x222
theorem pl_ok (I : Itp) (hI : ∀ k gs out, I k gs = some out → C k gs out) : PListOk Tryz.prog tabsL I pl :=
  PL.ok_cons (fun T hT hJ => pCallS_ok (by rw [hT]; exact low) (by kernel_rfl) (fun gs out h' => by rw [hT]; rw [hJ] at h'; exact hI 6 gs out h')) (PL.ok_cons (fun T hT hJ => pCallS_ok (by rw [hT]; exact low) (by kernel_rfl) (fun gs out h' => by rw [hT]; rw [hJ] at h'; exact hI 8 gs out h')) (PL.ok_cons (fun T hT hJ => pCallS_ok (by rw [hT]; exact low) (by kernel_rfl) (fun gs out h' => by rw [hT]; rw [hJ] at h'; exact hI 9 gs out h')) (PL.ok_cons (fun T hT hJ => pCallS_ok (by rw [hT]; exact low) (by kernel_rfl) (fun gs out h' => by rw [hT]; rw [hJ] at h'; exact hI 11 gs out h')) (PL.ok_cons (fun T hT hJ => pCallS_ok (by rw [hT]; exact low) (by kernel_rfl) (fun gs out h' => by rw [hT]; rw [hJ] at h'; exact hI 13 gs out h')) (PL.ok_cons (fun T hT hJ => pCallS_ok (by rw [hT]; exact low) (by kernel_rfl) (fun gs out h' => by rw [hT]; rw [hJ] at h'; exact hI 14 gs out h')) (PL.ok_cons (fun T hT hJ => pCallS_ok (by rw [hT]; exact low) (by kernel_rfl) (fun gs out h' => by rw [hT]; rw [hJ] at h'; exact hI 15 gs out h')) (PL.ok_call (fun gs out h => hI 1 gs out h) (PL.ok_cons (fun T hT hJ => cloneO_ok (fun gs out h' => by rw [hJ] at h'; exact hI 0 gs out h')) (PL.ok_call (fun gs out h => hI 17 gs out h) (PL.ok_cons (fun T hT hI => awake39_in T hT) (PL.ok_cons (fun T hT hI => pNoEscape_in T hT) (PL.ok_nil))))))))))))
end R
end Go.Proofs.YtckgelanagoenaaGreatDoor
