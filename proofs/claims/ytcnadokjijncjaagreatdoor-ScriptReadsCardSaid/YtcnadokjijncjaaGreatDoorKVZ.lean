/- What is computed is what the program does. -/
import Derived.Test.YtcnadokjijncjaaGreatDoorKOk28
import Derived.Test.YtcnadokjijncjaaGreatDoorKSplit
import Derived.Test.YtcnadokjijncjaaGreatDoorKFieldsF
import Derived.Test.YtcnadokjijncjaaGreatDoorKItoa
import Derived.Test.YtcnadokjijncjaaGreatDoorKFmtU
import Derived.Test.YtcnadokjijncjaaGreatDoorKNumber
import Derived.Test.YtcnadokjijncjaaGreatDoorKVG0
import Derived.Test.YtcnadokjijncjaaGreatDoorKVG1
import Derived.Test.YtcnadokjijncjaaGreatDoorKVG2
import Derived.Test.YtcnadokjijncjaaGreatDoorKVG3
namespace Go.Proofs.YtcnadokjijncjaaGreatDoor
open Go Go.Abs
set_option maxRecDepth 100000
set_option linter.unusedVariables false
set_option linter.unusedSimpArgs false
namespace V
theorem awake4_in (T : TabsOf) (hT : T.tabs = tabsL) : @PrimOk T Tryz.prog 4 pClosed := pClosed_of fun ro w h => by
  obtain ⟨σ', hs⟩ := isT_some run28
  exact closed_run (call_ok pl27_ok 1000000) σ0_start hs (by rw [hT] at h; exact h)
theorem pNoEscape_in (T : TabsOf) (_ : T.tabs = tabsL) : @PrimOk T Tryz.prog 270 pNoEscape := by letI := T; exact pNoEscape_ok x270
theorem pl_ok (I : Itp) (hI : ∀ k gs out, I k gs = some out → C k gs out) : PListOk Tryz.prog tabsL I pl :=
  plOf_ok low (by kernel_rfl) hI (PL.ok_cons (fun T hT hI => awake4_in T hT) (PL.ok_cons (fun T hT hI => pNoEscape_in T hT) (PL.ok_nil)))
theorem hands : HandOk Tryz.prog tabsL rows Ds (handL rows 0) := ⟨⟨_, _, rfl, rfl, fun _ _ _ _ h => split_ok h⟩, ⟨_, _, rfl, rfl, fun _ _ _ _ h => fields_ok h⟩, ⟨_, _, rfl, rfl, fun _ _ _ _ _ => trivial⟩, ⟨_, _, rfl, rfl, fun _ _ _ _ h => number_ok h⟩, ⟨_, _, rfl, rfl, fun _ _ _ _ _ => trivial⟩, ⟨_, _, rfl, rfl, fun _ _ _ _ _ => trivial⟩, ⟨_, _, rfl, rfl, fun _ _ _ _ _ => trivial⟩, ⟨_, _, rfl, rfl, fun _ _ _ _ h => fmtU_ok h⟩, ⟨_, _, rfl, rfl, fun _ _ _ _ h => itoa_ok h⟩, trivial⟩
theorem lim_ctr : ∀ k gs out, TT.lim k gs = some out → C k gs out := tab_lim low mixed names pl_ok hands rfl ((Seg.of g0).join ((Seg.of g11).join ((Seg.of g12).join ((Seg.of g20).join ((Seg.of g25).join ((Seg.of g29).join ((Seg.of g30).join ((Seg.of g37).join ((Seg.of g39).join (Seg.of g40))))))))))
end V
end Go.Proofs.YtcnadokjijncjaaGreatDoor
