/- What crc.sums answers: one run of it, its result frozen; as a contract over values. -/
import Derived.Test.YtilkjidelblkfaaGreatDoorKOk27
import Derived.Test.YtilkjidelblkfaaGreatDoorAbsTold3
namespace Go.Proofs.YtilkjidelblkfaaGreatDoor
open Go.Abs
set_option maxRecDepth 100000
theorem sumsRun : ((call pl17 1000000 120 [] σ0).bind fun x => frz Tryz.prog x.2 8 x.1) = some (gvAV (.g (sumsL.map fun n => .i .u32 n))) := by kernel_rfl
theorem sums_ok {gs out : List GV} (h : sumsP gs = some out) : FnC Tryz.prog tabsL 120 [] [.ag 16] gs out := by
  unfold sumsP at h
  split at h
  · cases h
    obtain ⟨⟨a, σ'⟩, h1, h2⟩ := Option.bind_eq_some_iff.1 sumsRun
    exact const_FnCg (call_ok pl17_ok 1000000) σ0_start rfl h1 8 h2 rfl
  · cases h
end Go.Proofs.YtilkjidelblkfaaGreatDoor
