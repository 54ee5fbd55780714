/- The prims of all runs. -/
import Derived.Test.YtamcdgfjjeldeaaGreatDoorKOk23
import Derived.Test.YtamcdgfjjeldeaaGreatDoorKDD
import Derived.Test.YtamcdgfjjeldeaaGreatDoorKSort
import Derived.Test.YtamcdgfjjeldeaaGreatDoorKClone
import Derived.Test.YtamcdgfjjeldeaaGreatDoorKValid
import Derived.Test.YtamcdgfjjeldeaaGreatDoorKExt
namespace Go.Proofs.YtamcdgfjjeldeaaGreatDoor
open Go Go.Abs
set_option maxRecDepth 100000
set_option linter.unusedVariables false
set_option linter.unusedSimpArgs false
namespace D
theorem awake15_in (T : TabsOf) (hT : T.tabs = tabsL) : @PrimOk T Tryz.prog 15 pClosed := pClosed_of fun ro w h => by
  obtain ⟨σ', hs⟩ := isT_some run13
  exact closed_run (call_ok pl12_ok 1000000) σ0_start hs (by rw [hT] at h; exact h)
theorem awake56_in (T : TabsOf) (hT : T.tabs = tabsL) : @PrimOk T Tryz.prog 56 pClosed := pClosed_of fun ro w h => by
  obtain ⟨σ', hs⟩ := isT_some run16
  exact closed_run (call_ok pl15_ok 1000000) σ0_start hs (by rw [hT] at h; exact h)
theorem pNoEscape_in (T : TabsOf) (_ : T.tabs = tabsL) : @PrimOk T Tryz.prog 164 pNoEscape := by letI := T; exact pNoEscape_ok x164
theorem pl_ok (I : Itp) (hI : ∀ k gs out, I k gs = some out → C k gs out) : PListOk Tryz.prog tabsL I pl :=
  PL.ok_call (fun gs out h => hI 52 gs out h) (PL.ok_call (fun gs out h => hI 49 gs out h) (PL.ok_call (fun gs out h => hI 15 gs out h) (PL.ok_call (fun gs out h => hI 12 gs out h) (PL.ok_call (fun gs out h => hI 33 gs out h) (PL.ok_call (fun gs out h => hI 41 gs out h) (PL.ok_call (fun gs out h => hI 48 gs out h) (PL.ok_call (fun gs out h => hI 61 gs out h) (PL.ok_call (fun gs out h => hI 68 gs out h) (PL.ok_call (fun gs out h => hI 23 gs out h) (PL.ok_call (fun gs out h => hI 44 gs out h) (PL.ok_call (fun gs out h => hI 46 gs out h) (PL.ok_call (fun gs out h => hI 82 gs out h) (PL.ok_call (fun gs out h => hI 64 gs out h) (PL.ok_call (fun gs out h => hI 58 gs out h) (PL.ok_call (fun gs out h => hI 47 gs out h) (PL.ok_call (fun gs out h => hI 97 gs out h) (PL.ok_call (fun gs out h => hI 51 gs out h) (PL.ok_call (fun gs out h => hI 54 gs out h) (PL.ok_call (fun gs out h => hI 31 gs out h) (PL.ok_call (fun gs out h => hI 45 gs out h) (PL.ok_call (fun gs out h => hI 101 gs out h) (PL.ok_call (fun gs out h => hI 71 gs out h) (PL.ok_call (fun gs out h => hI 87 gs out h) (PL.ok_call (fun gs out h => hI 42 gs out h) (PL.ok_call (fun gs out h => hI 39 gs out h) (PL.ok_call (fun gs out h => hI 30 gs out h) (PL.ok_call (fun gs out h => hI 66 gs out h) (PL.ok_call (fun gs out h => hI 40 gs out h) (PL.ok_call (fun gs out h => hI 24 gs out h) (PL.ok_call (fun gs out h => hI 79 gs out h) (PL.ok_call (fun gs out h => hI 21 gs out h) (PL.ok_call (fun gs out h => hI 74 gs out h) (PL.ok_call (fun gs out h => hI 16 gs out h) (PL.ok_call (fun gs out h => hI 2 gs out h) (PL.ok_call (fun gs out h => hI 86 gs out h) (PL.ok_call (fun gs out h => hI 88 gs out h) (PL.ok_call (fun gs out h => hI 56 gs out h) (PL.ok_call (fun gs out h => hI 18 gs out h) (PL.ok_call (fun gs out h => hI 27 gs out h) (PL.ok_call (fun gs out h => hI 4 gs out h) (PL.ok_call (fun gs out h => hI 78 gs out h) (PL.ok_call (fun gs out h => hI 91 gs out h) (PL.ok_call (fun gs out h => hI 37 gs out h) (PL.ok_call (fun gs out h => hI 96 gs out h) (PL.ok_call (fun gs out h => hI 8 gs out h) (PL.ok_call (fun gs out h => hI 75 gs out h) (PL.ok_call (fun gs out h => hI 85 gs out h) (PL.ok_call (fun gs out h => hI 65 gs out h) (PL.ok_call (fun gs out h => hI 62 gs out h) (PL.ok_call (fun gs out h => hI 95 gs out h) (PL.ok_call (fun gs out h => hI 6 gs out h) (PL.ok_call (fun gs out h => hI 35 gs out h) (PL.ok_cons (fun T hT hJ => pSort_ok sortFacts (fun gs out h' => by subst hJ; exact hI 0 gs out h')) (PL.ok_call (fun gs out h => hI 72 gs out h) (PL.ok_call (fun gs out h => hI 7 gs out h) (PL.ok_call (fun gs out h => hI 53 gs out h) (PL.ok_call (fun gs out h => hI 13 gs out h) (PL.ok_call (fun gs out h => hI 80 gs out h) (PL.ok_call (fun gs out h => hI 19 gs out h) (PL.ok_call (fun gs out h => hI 100 gs out h) (PL.ok_call (fun gs out h => hI 28 gs out h) (PL.ok_call (fun gs out h => hI 1 gs out h) (PL.ok_call (fun gs out h => hI 59 gs out h) (PL.ok_call (fun gs out h => hI 20 gs out h) (PL.ok_call (fun gs out h => hI 70 gs out h) (PL.ok_cons (fun T hT hI => awake56_in T hT) (PL.ok_cons (fun T hT hI => awake15_in T hT) (PL.ok_cons (fun T hT hI => pNoEscape_in T hT) (PL.ok_nil)))))))))))))))))))))))))))))))))))))))))))))))))))))))))))))))))))))
end D
end Go.Proofs.YtamcdgfjjeldeaaGreatDoor
