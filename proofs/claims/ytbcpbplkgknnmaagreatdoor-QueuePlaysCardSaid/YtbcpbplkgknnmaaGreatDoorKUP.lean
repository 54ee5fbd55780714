/- The prims of all runs. -/
import Derived.Test.YtbcpbplkgknnmaaGreatDoorKOk24
import Derived.Test.YtbcpbplkgknnmaaGreatDoorKUD
import Derived.Test.YtbcpbplkgknnmaaGreatDoorKCloneO
namespace Go.Proofs.YtbcpbplkgknnmaaGreatDoor
open Go Go.Abs
set_option maxRecDepth 100000
set_option linter.unusedVariables false
set_option linter.unusedSimpArgs false
namespace U
theorem awake50_in (T : TabsOf) (hT : T.tabs = tabsL) : @PrimOk T Tryz.prog 50 pClosed := pClosed_of fun ro w h => by
  obtain ⟨σ', hs⟩ := isT_some run21
  exact closed_run (call_ok pl20_ok 1000000) σ0_start hs (by rw [hT] at h; exact h)
theorem pNoEscape_in (T : TabsOf) (_ : T.tabs = tabsL) : @PrimOk T Tryz.prog 282 pNoEscape := by letI := T; exact pNoEscape_ok x282
theorem pl_ok (I : Itp) (hI : ∀ k gs out, I k gs = some out → C k gs out) : PListOk Tryz.prog tabsL I pl :=
  PL.ok_cons (fun T hT hJ => pCallS_ok (by rw [hT]; exact low) (by kernel_rfl) (fun gs out h' => by rw [hT]; rw [hJ] at h'; exact hI 6 gs out h')) (PL.ok_cons (fun T hT hJ => pCallS_ok (by rw [hT]; exact low) (by kernel_rfl) (fun gs out h' => by rw [hT]; rw [hJ] at h'; exact hI 8 gs out h')) (PL.ok_cons (fun T hT hJ => pCallS_ok (by rw [hT]; exact low) (by kernel_rfl) (fun gs out h' => by rw [hT]; rw [hJ] at h'; exact hI 9 gs out h')) (PL.ok_cons (fun T hT hJ => pCallS_ok (by rw [hT]; exact low) (by kernel_rfl) (fun gs out h' => by rw [hT]; rw [hJ] at h'; exact hI 10 gs out h')) (PL.ok_cons (fun T hT hJ => pCallS_ok (by rw [hT]; exact low) (by kernel_rfl) (fun gs out h' => by rw [hT]; rw [hJ] at h'; exact hI 11 gs out h')) (PL.ok_cons (fun T hT hJ => pCallS_ok (by rw [hT]; exact low) (by kernel_rfl) (fun gs out h' => by rw [hT]; rw [hJ] at h'; exact hI 19 gs out h')) (PL.ok_cons (fun T hT hJ => pCallS_ok (by rw [hT]; exact low) (by kernel_rfl) (fun gs out h' => by rw [hT]; rw [hJ] at h'; exact hI 21 gs out h')) (PL.ok_call (fun gs out h => hI 13 gs out h) (PL.ok_call (fun gs out h => hI 17 gs out h) (PL.ok_cons (fun T hT hJ => cloneO_ok (fun gs out h' => by rw [hJ] at h'; exact hI 0 gs out h')) (PL.ok_call (fun gs out h => hI 24 gs out h) (PL.ok_call (fun gs out h => hI 1 gs out h) (PL.ok_cons (fun T hT hI => awake50_in T hT) (PL.ok_cons (fun T hT hI => pNoEscape_in T hT) (PL.ok_nil))))))))))))))
end U
end Go.Proofs.YtbcpbplkgknnmaaGreatDoor
