/- strconv.Itoa: the kit's contract, laid here. -/
import Derived.Test.YtdpjiaedcmagdaaGreatDoorProg
import Derived.Test.YtdpjiaedcmagdaaGreatDoorKRBase
import Derived.Test.YtdpjiaedcmagdaaGreatDoorAbsScr
import Derived.Shelf.Lay
import Derived.Ground.NamesProg
import Derived.Shelf.Strconv.Itoa3
import Derived.Lib.AppendIntMem
namespace Go.Proofs
open Go.Shelf
shelf_lay LaysM.n171 Nm 171 at Tryz as Tryz.laysItoa
end Go.Proofs
namespace Go.Proofs.YtdpjiaedcmagdaaGreatDoor
open Go.Shelf Go.RowKit Go.Lib Go.Abs
set_option maxRecDepth 100000
theorem pow10_tab {ro : Nat → Option Obj} {w : World} (hro : RoOk tabsL ro w) : Lib.TabIs Tryz.prog w "internal/strconv.uint64pow10" .u64 Lib.pow10Tab := by
  refine RoOk.ints hro (g := 3) ?_ (by decide) (by kernel_rfl)
  have e : (Lib.pow10Tab.map fun z => AV.i .u64 z) = pow10AV := by
    unfold pow10AV
    rw [show Lib.pow10Tab = pow10Z from by decide]
  rw [e]
  simp [tabsL]
theorem itoa_ok {gs out : List GV} (h : itoaP gs = some out) : FnC Tryz.prog tabsL 32 [] [.sc] gs out := by
  unfold itoaP at h
  split at h
  rotate_left
  · cases h
  next n =>
  split at h
  rotate_left
  · cases h
  next hc =>
  cases h
  refine text_FnC (v := .int .i64 n) (fun ro x hx => by simpa only [GR] using hx) (fun ro w hro => ?_) (enters_of Tryz.func32 (by kernel_rfl) rfl)
  refine (Any.strconv_Itoa Tryz.laysItoa n hc.1 hc.2 w (pow10_tab hro)).mono ?_
  rintro e w' ⟨rfl, k, os, rfl⟩
  exact ⟨rfl, Lib.below_grow w.heap.size w (Nat.le_refl _) k os⟩
end Go.Proofs.YtdpjiaedcmagdaaGreatDoor
