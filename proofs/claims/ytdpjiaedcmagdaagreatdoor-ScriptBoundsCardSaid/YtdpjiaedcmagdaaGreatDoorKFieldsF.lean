/- strings.FieldsFunc at a script's blank: the kit's contract, laid here. -/
import Derived.Test.YtdpjiaedcmagdaaGreatDoorProg
import Derived.Test.YtdpjiaedcmagdaaGreatDoorKRBase
import Derived.Test.YtdpjiaedcmagdaaGreatDoorAbsScr
import Derived.Shelf.Lay
import Derived.Ground.NamesProg
import Derived.Shelf.Strings.FieldsFuncAny
import Derived.WalkKit
namespace Go.Proofs
open Go.Shelf
shelf_lay Lays.n229 Nm 229 at Tryz as Tryz.laysFieldsF
end Go.Proofs
namespace Go.Proofs.YtdpjiaedcmagdaaGreatDoor
open Go.Shelf Go.RowKit Go.Lib Go.Abs
set_option maxRecDepth 100000
theorem blank_walk (x : Nat) (w : World) : Calls Tryz.prog 21 #[encR x] w fun e w' => e = .returned (.bool (x == 32)) ∧ w' = w := by
  go_enter Tryz.func21, Tryz.ntmps21
  unfold encR
  go_wp2
  go_ret
  refine ⟨?_, rfl⟩
  show Ending.returned (Value.bool ((x : Int) == 32)) = Ending.returned (Value.bool (x == 32))
  have : ((x : Int) == 32) = (x == 32) := by
    rw [Bool.eq_iff_iff]
    simp
    omega
  rw [this]
theorem fields_walk (s : ByteArray) (w : World) (hs : s.size ≤ 4294967296) : Calls Tryz.prog 20 #[.string s, .func (.func 21) #[] #[]] w fun e w' => ∃ v, e = .returned v ∧ w'.ownsRow w.heap.size 9 1 v (Lib.goFieldsP (fun x => x == 32) s).length ((Lib.goFieldsP (fun x => x == 32) s).map Value.string) ∧ Below w.heap.size w w' := by
  refine (Any.strings_FieldsFunc Tryz.laysFieldsF 21 #[] (enters_of Tryz.func21 (by kernel_rfl) rfl) (fun x => x == 32) s w hs (fun W x _ => ?_) (by kernel_rfl) (by kernel_rfl)).mono ?_
  · refine (blank_walk x W).mono ?_
    rintro e w' ⟨rfl, rfl⟩
    exact ⟨rfl, 0, (World.drewN_zero _).symm⟩
  · rintro e w' ⟨A, rfl, hA, hown, hb⟩
    exact ⟨_, rfl, hown, hb⟩
theorem fields_ok {gs out : List GV} (h : fieldsP gs = some out) : FnC Tryz.prog tabsL 20 [none, some 21] [.sc] gs out := fields_FnC fields_walk (enters_of Tryz.func20 (by kernel_rfl) rfl) h
end Go.Proofs.YtdpjiaedcmagdaaGreatDoor
