/- What message.Names answers, as a contract over values: from the one run of it. -/
import Derived.Test.YtilkjidelblkfaaGreatDoorKNames
import Derived.Test.YtilkjidelblkfaaGreatDoorKOk27
import Derived.Test.YtilkjidelblkfaaGreatDoorAbsTold3
namespace Go.Proofs.YtilkjidelblkfaaGreatDoor
open Go.Abs
set_option maxRecDepth 100000
theorem names_okC {gs out : List GV} (h : namesP gs = some out) : FnC Tryz.prog tabsL 107 [] [.sc] gs out := by
  unfold namesP at h
  split at h
  · cases h
    obtain ⟨⟨a, σ'⟩, h1, h2⟩ := Option.bind_eq_some_iff.1 namesRun
    exact const_FnC (call_ok pl17_ok 1000000) σ0_start rfl h1 8 (h2.trans rfl) rfl
  · cases h
end Go.Proofs.YtilkjidelblkfaaGreatDoor
