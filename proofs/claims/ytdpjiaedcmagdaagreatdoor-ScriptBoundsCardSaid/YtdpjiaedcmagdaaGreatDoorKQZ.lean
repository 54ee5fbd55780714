/- What is computed is what the program does. -/
import Derived.Test.YtdpjiaedcmagdaaGreatDoorKOk28
import Derived.Test.YtdpjiaedcmagdaaGreatDoorKSplit
import Derived.Test.YtdpjiaedcmagdaaGreatDoorKFieldsF
import Derived.Test.YtdpjiaedcmagdaaGreatDoorKItoa
import Derived.Test.YtdpjiaedcmagdaaGreatDoorKFmtU
import Derived.Test.YtdpjiaedcmagdaaGreatDoorKNumber
import Derived.Test.YtdpjiaedcmagdaaGreatDoorKJoin
import Derived.Test.YtdpjiaedcmagdaaGreatDoorKRepl
import Derived.Test.YtdpjiaedcmagdaaGreatDoorKWithout
import Derived.Test.YtdpjiaedcmagdaaGreatDoorKQG0
namespace Go.Proofs.YtdpjiaedcmagdaaGreatDoor
open Go Go.Abs
set_option maxRecDepth 100000
set_option linter.unusedVariables false
set_option linter.unusedSimpArgs false
namespace Q
theorem awake7_in (T : TabsOf) (hT : T.tabs = tabsL) : @PrimOk T Tryz.prog 7 pClosed := pClosed_of fun ro w h => by
  obtain ⟨σ', hs⟩ := isT_some run28
  exact closed_run (call_ok pl27_ok 1000000) σ0_start hs (by rw [hT] at h; exact h)
theorem pNoEscape_in (T : TabsOf) (_ : T.tabs = tabsL) : @PrimOk T Tryz.prog 47 pNoEscape := by letI := T; exact pNoEscape_ok x47
theorem pl_ok (I : Itp) (hI : ∀ k gs out, I k gs = some out → C k gs out) : PListOk Tryz.prog tabsL I pl :=
  plOf_ok low (by kernel_rfl) hI (PL.ok_cons (fun T hT hJ => pLend_ok (fun gs out h' => by rw [hT]; rw [hJ] at h'; exact hI 3 gs out h')) (PL.ok_cons (fun T hT hI => awake7_in T hT) (PL.ok_cons (fun T hT hI => pNoEscape_in T hT) (PL.ok_nil))))
theorem hands : HandOk Tryz.prog tabsL rows Ds (handL rows 0) := ⟨⟨_, _, rfl, rfl, fun _ _ _ _ h => fmtU_ok h⟩, ⟨_, _, rfl, rfl, fun _ _ _ _ h => join_ok h⟩, ⟨_, _, rfl, rfl, fun _ _ _ _ h => itoa_ok h⟩, ⟨_, _, rfl, rfl, fun _ _ _ _ h => without_ok h⟩, ⟨_, _, rfl, rfl, fun _ _ _ _ h => split_ok h⟩, ⟨_, _, rfl, rfl, fun _ _ _ _ h => fields_ok h⟩, ⟨_, _, rfl, rfl, fun _ _ _ _ _ => trivial⟩, ⟨_, _, rfl, rfl, fun _ _ _ _ h => number_ok h⟩, ⟨_, _, rfl, rfl, fun _ _ _ _ _ => trivial⟩, ⟨_, _, rfl, rfl, fun _ _ _ _ _ => trivial⟩, ⟨_, _, rfl, rfl, fun _ _ _ _ _ => trivial⟩, ⟨_, _, rfl, rfl, fun _ _ _ _ h => repl_ok h⟩, trivial⟩
theorem lim_ctr : ∀ k gs out, TT.lim k gs = some out → C k gs out := tab_lim low mixed names pl_ok hands rfl ((Seg.of g0).join ((Seg.of g1).join ((Seg.of g13).join ((Seg.of g15).join ((Seg.of g25).join ((Seg.of g26).join ((Seg.of g35).join ((Seg.of g39).join (Seg.of g40)))))))))
end Q
end Go.Proofs.YtdpjiaedcmagdaaGreatDoor
