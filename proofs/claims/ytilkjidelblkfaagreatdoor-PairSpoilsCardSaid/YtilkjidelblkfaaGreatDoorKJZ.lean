/- What is computed is what the program does. -/
import Derived.Test.YtilkjidelblkfaaGreatDoorKOk27
import Derived.Test.YtilkjidelblkfaaGreatDoorKClone
import Derived.Test.YtilkjidelblkfaaGreatDoorKValid
import Derived.Test.YtilkjidelblkfaaGreatDoorKNamesT
import Derived.Test.YtilkjidelblkfaaGreatDoorKFClone
import Derived.Test.YtilkjidelblkfaaGreatDoorKSortF
import Derived.Test.YtilkjidelblkfaaGreatDoorKSums
import Derived.Test.YtilkjidelblkfaaGreatDoorKCloneE
import Derived.Test.YtilkjidelblkfaaGreatDoorKCloneF
import Derived.Test.YtilkjidelblkfaaGreatDoorKJG0
import Derived.Test.YtilkjidelblkfaaGreatDoorKJG1
namespace Go.Proofs.YtilkjidelblkfaaGreatDoor
open Go Go.Abs
set_option maxRecDepth 100000
set_option linter.unusedVariables false
set_option linter.unusedSimpArgs false
namespace J
theorem awake14_in (T : TabsOf) (hT : T.tabs = tabsL) : @PrimOk T Tryz.prog 14 pClosed := pClosed_of fun ro w h => by
  obtain ⟨σ', hs⟩ := isT_some run27
  exact closed_run (call_ok pl26_ok 1000000) σ0_start hs (by rw [hT] at h; exact h)
theorem pNoEscape_in (T : TabsOf) (_ : T.tabs = tabsL) : @PrimOk T Tryz.prog 169 pNoEscape := by letI := T; exact pNoEscape_ok x169
theorem pl_ok (I : Itp) (hI : ∀ k gs out, I k gs = some out → C k gs out) : PListOk Tryz.prog tabsL I pl :=
  plOf_ok low (by kernel_rfl) hI (PL.ok_cons (fun T hT hJ => cloneO_ok (fun gs out h' => by rw [hJ] at h'; exact hI 0 gs out h')) (PL.ok_cons (fun T hT hJ => sortF_ok sortFacts (fun gs out h' => by rw [hJ] at h'; exact hI 1 gs out h')) (PL.ok_cons (fun T hT hI => awake14_in T hT) (PL.ok_cons (fun T hT hI => pNoEscape_in T hT) (PL.ok_nil)))))
theorem hands : HandOk Tryz.prog tabsL rows Ds (handL rows 0) := ⟨⟨_, _, rfl, rfl, fun _ _ _ _ h => h⟩, ⟨_, _, rfl, rfl, fun _ _ _ _ h => h⟩, ⟨_, _, rfl, rfl, fun _ _ _ _ h => sums_ok h⟩, ⟨_, _, rfl, rfl, fun _ _ _ _ h => valid_ok h⟩, ⟨_, _, rfl, rfl, fun _ _ _ _ h => cloneP_okF h⟩, ⟨_, _, rfl, rfl, fun _ _ _ _ h => names_okC h⟩, ⟨_, _, rfl, rfl, fun _ _ _ _ h => fclone_ok h⟩, ⟨_, _, rfl, rfl, fun _ _ _ _ _ => trivial⟩, ⟨_, _, rfl, rfl, fun _ _ _ _ _ => trivial⟩, ⟨_, _, rfl, rfl, fun _ _ _ _ _ => trivial⟩, ⟨_, _, rfl, rfl, fun _ _ _ _ _ => trivial⟩, ⟨_, _, rfl, rfl, fun _ _ _ _ _ => trivial⟩, ⟨_, _, rfl, rfl, fun _ _ _ _ _ => trivial⟩, ⟨_, _, rfl, rfl, fun _ _ _ _ h => cloneP_ok123 h⟩, ⟨_, _, rfl, rfl, fun _ _ _ _ _ => trivial⟩, ⟨_, _, rfl, rfl, fun _ _ _ _ _ => trivial⟩, ⟨_, _, rfl, rfl, fun _ _ _ _ _ => trivial⟩, ⟨_, _, rfl, rfl, fun _ _ _ _ _ => trivial⟩, ⟨_, _, rfl, rfl, fun _ _ _ _ _ => trivial⟩, ⟨_, _, rfl, rfl, fun _ _ _ _ _ => trivial⟩, ⟨_, _, rfl, rfl, fun _ _ _ _ _ => trivial⟩, ⟨_, _, rfl, rfl, fun _ _ _ _ _ => trivial⟩, trivial⟩
theorem lim_ctr : ∀ k gs out, TT.lim k gs = some out → C k gs out := tab_lim low mixed names pl_ok hands rfl ((Seg.of g0).join ((Seg.of g2).join ((Seg.of g3).join ((Seg.of g12).join ((Seg.of g13).join ((Seg.of g24).join ((Seg.of g26).join ((Seg.of g32).join ((Seg.of g38).join ((Seg.of g39).join ((Seg.of g47).join ((Seg.of g74).join ((Seg.of g78).join ((Seg.of g79).join ((Seg.of g92).join ((Seg.of g107).join ((Seg.of g111).join ((Seg.of g127).join ((Seg.of g133).join (Seg.of g145))))))))))))))))))))
end J
end Go.Proofs.YtilkjidelblkfaaGreatDoor
