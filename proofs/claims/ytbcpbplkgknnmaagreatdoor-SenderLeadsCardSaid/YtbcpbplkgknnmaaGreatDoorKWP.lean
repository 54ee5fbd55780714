/- The prims of all runs. -/
import Derived.Test.YtbcpbplkgknnmaaGreatDoorKOk24
import Derived.Test.YtbcpbplkgknnmaaGreatDoorKWD
import Derived.Test.YtbcpbplkgknnmaaGreatDoorKClone
import Derived.Test.YtbcpbplkgknnmaaGreatDoorKExt
import Derived.Test.YtbcpbplkgknnmaaGreatDoorKValid
namespace Go.Proofs.YtbcpbplkgknnmaaGreatDoor
open Go Go.Abs
set_option maxRecDepth 100000
set_option linter.unusedVariables false
set_option linter.unusedSimpArgs false
namespace W
theorem awake61_in (T : TabsOf) (hT : T.tabs = tabsL) : @PrimOk T Tryz.prog 61 pClosed := pClosed_of fun ro w h => by
  obtain ⟨σ', hs⟩ := isT_some run24
  exact closed_run (call_ok pl23_ok 1000000) σ0_start hs (by rw [hT] at h; exact h)
theorem pNoEscape_in (T : TabsOf) (_ : T.tabs = tabsL) : @PrimOk T Tryz.prog 282 pNoEscape := by letI := T; exact pNoEscape_ok x282
theorem pl_ok (I : Itp) (hI : ∀ k gs out, I k gs = some out → C k gs out) : PListOk Tryz.prog tabsL I pl :=
  PL.ok_cons (fun T hT hJ => pCallS_ok (by rw [hT]; exact low) (by kernel_rfl) (fun gs out h' => by rw [hT]; rw [hJ] at h'; exact hI 45 gs out h')) (PL.ok_cons (fun T hT hJ => pCallS_ok (by rw [hT]; exact low) (by kernel_rfl) (fun gs out h' => by rw [hT]; rw [hJ] at h'; exact hI 46 gs out h')) (PL.ok_cons (fun T hT hJ => pCallS_ok (by rw [hT]; exact low) (by kernel_rfl) (fun gs out h' => by rw [hT]; rw [hJ] at h'; exact hI 47 gs out h')) (PL.ok_cons (fun T hT hJ => pCallS_ok (by rw [hT]; exact low) (by kernel_rfl) (fun gs out h' => by rw [hT]; rw [hJ] at h'; exact hI 54 gs out h')) (PL.ok_cons (fun T hT hJ => pCallS_ok (by rw [hT]; exact low) (by kernel_rfl) (fun gs out h' => by rw [hT]; rw [hJ] at h'; exact hI 56 gs out h')) (PL.ok_cons (fun T hT hJ => pCallS_ok (by rw [hT]; exact low) (by kernel_rfl) (fun gs out h' => by rw [hT]; rw [hJ] at h'; exact hI 57 gs out h')) (PL.ok_cons (fun T hT hJ => pCallS_ok (by rw [hT]; exact low) (by kernel_rfl) (fun gs out h' => by rw [hT]; rw [hJ] at h'; exact hI 64 gs out h')) (PL.ok_cons (fun T hT hJ => pCallS_ok (by rw [hT]; exact low) (by kernel_rfl) (fun gs out h' => by rw [hT]; rw [hJ] at h'; exact hI 65 gs out h')) (PL.ok_call (fun gs out h => hI 2 gs out h) (PL.ok_call (fun gs out h => hI 7 gs out h) (PL.ok_call (fun gs out h => hI 38 gs out h) (PL.ok_call (fun gs out h => hI 35 gs out h) (PL.ok_call (fun gs out h => hI 28 gs out h) (PL.ok_call (fun gs out h => hI 59 gs out h) (PL.ok_call (fun gs out h => hI 31 gs out h) (PL.ok_call (fun gs out h => hI 43 gs out h) (PL.ok_call (fun gs out h => hI 29 gs out h) (PL.ok_call (fun gs out h => hI 32 gs out h) (PL.ok_call (fun gs out h => hI 6 gs out h) (PL.ok_call (fun gs out h => hI 58 gs out h) (PL.ok_call (fun gs out h => hI 50 gs out h) (PL.ok_call (fun gs out h => hI 8 gs out h) (PL.ok_call (fun gs out h => hI 39 gs out h) (PL.ok_call (fun gs out h => hI 12 gs out h) (PL.ok_call (fun gs out h => hI 20 gs out h) (PL.ok_call (fun gs out h => hI 34 gs out h) (PL.ok_call (fun gs out h => hI 0 gs out h) (PL.ok_call (fun gs out h => hI 49 gs out h) (PL.ok_call (fun gs out h => hI 21 gs out h) (PL.ok_call (fun gs out h => hI 24 gs out h) (PL.ok_call (fun gs out h => hI 26 gs out h) (PL.ok_call (fun gs out h => hI 40 gs out h) (PL.ok_call (fun gs out h => hI 36 gs out h) (PL.ok_call (fun gs out h => hI 61 gs out h) (PL.ok_call (fun gs out h => hI 25 gs out h) (PL.ok_call (fun gs out h => hI 41 gs out h) (PL.ok_call (fun gs out h => hI 62 gs out h) (PL.ok_call (fun gs out h => hI 33 gs out h) (PL.ok_call (fun gs out h => hI 4 gs out h) (PL.ok_cons (fun T hT hI => awake61_in T hT) (PL.ok_cons (fun T hT hI => pNoEscape_in T hT) (PL.ok_nil)))))))))))))))))))))))))))))))))))))))))
end W
end Go.Proofs.YtbcpbplkgknnmaaGreatDoor
