/- What is computed is what the program does. -/
import Derived.Test.YtehcokoigbiciaaGreatDoorKOk13
import Derived.Test.YtehcokoigbiciaaGreatDoorKClone
import Derived.Test.YtehcokoigbiciaaGreatDoorKValid
import Derived.Test.YtehcokoigbiciaaGreatDoorKSort
import Derived.Test.YtehcokoigbiciaaGreatDoorKWG0
import Derived.Test.YtehcokoigbiciaaGreatDoorKWG1
import Derived.Test.YtehcokoigbiciaaGreatDoorKWG2
import Derived.Test.YtehcokoigbiciaaGreatDoorKWG3
namespace Go.Proofs.YtehcokoigbiciaaGreatDoor
open Go Go.Abs
set_option maxRecDepth 100000
set_option linter.unusedVariables false
set_option linter.unusedSimpArgs false
namespace W
theorem awake4_in (T : TabsOf) (hT : T.tabs = tabsL) : @PrimOk T Tryz.prog 4 pClosed := pClosed_of fun ro w h => by
  obtain ⟨σ', hs⟩ := isT_some run13
  exact closed_run (call_ok pl12_ok 1000000) σ0_start hs (by rw [hT] at h; exact h)
theorem pNoEscape_in (T : TabsOf) (_ : T.tabs = tabsL) : @PrimOk T Tryz.prog 82 pNoEscape := by letI := T; exact pNoEscape_ok x82
theorem pl_ok (I : Itp) (hI : ∀ k gs out, I k gs = some out → C k gs out) : PListOk Tryz.prog tabsL I pl :=
  plOf_ok low (by kernel_rfl) hI (PL.ok_cons (fun T hT hJ => pSort_ok sortFacts (fun gs out h' => by rw [hJ] at h'; exact hI 0 gs out h')) (PL.ok_cons (fun T hT hI => awake4_in T hT) (PL.ok_cons (fun T hT hI => pNoEscape_in T hT) (PL.ok_nil))))
theorem hands : HandOk Tryz.prog tabsL rows Ds (handL rows 0) := ⟨⟨_, _, rfl, rfl, fun _ _ _ _ h => h⟩, ⟨_, _, rfl, rfl, fun _ _ _ _ h => by cases h⟩, ⟨_, _, rfl, rfl, fun _ _ _ _ h => valid_ok h⟩, ⟨_, _, rfl, rfl, fun _ _ _ _ h => cloneP_ok123 h⟩, trivial⟩
theorem lim_ctr : ∀ k gs out, TT.lim k gs = some out → C k gs out := tab_lim low mixed names pl_ok hands rfl ((Seg.of g0).join ((Seg.of g12).join ((Seg.of g20).join ((Seg.of g32).join ((Seg.of g37).join ((Seg.of g38).join ((Seg.of g43).join ((Seg.of g50).join ((Seg.of g57).join (Seg.of g67))))))))))
end W
end Go.Proofs.YtehcokoigbiciaaGreatDoor
