/- What message.Names answers: one run, its result frozen. -/
import Derived.Test.YtilkjidelblkfaaGreatDoorKPl
namespace Go.Proofs.YtilkjidelblkfaaGreatDoor
open Go.Abs
set_option maxRecDepth 100000
theorem namesRun : ((call pl17 1000000 107 [] σ0).bind fun x => frz Tryz.prog x.2 8 x.1) = some namesAV := by kernel_rfl
theorem names_ok (h : ∀ p ∈ pl17, PrimOk Tryz.prog p.1 p.2) : PrimOk Tryz.prog 107 fun args σ => (namesG args).map (·, σ) := by
  refine PrimOk.of_fn fun args r hg => ?_
  unfold namesG at hg
  split at hg
  · cases hg
    obtain ⟨⟨a, σ'⟩, h1, h2⟩ := Option.bind_eq_some_iff.1 namesRun
    exact Fn.of_call (call_ok h 1000000) σ0_start rfl rfl h1 8 h2
  · cases hg
end Go.Proofs.YtilkjidelblkfaaGreatDoor
