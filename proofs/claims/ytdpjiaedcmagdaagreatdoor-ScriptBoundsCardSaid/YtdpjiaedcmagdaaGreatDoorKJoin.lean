/- strings.Join at a blank: the kit's contract, laid here. -/
import Derived.Test.YtdpjiaedcmagdaaGreatDoorProg
import Derived.Test.YtdpjiaedcmagdaaGreatDoorKRBase
import Derived.Test.YtdpjiaedcmagdaaGreatDoorAbsScr2
import Derived.Shelf.Lay
import Derived.Ground.NamesProg
import Derived.Shelf.Strings.OnBuilder
namespace Go.Proofs
open Go.Shelf
shelf_lay Lays.n156 Nm 156 at Tryz as Tryz.laysJoin
end Go.Proofs
namespace Go.Proofs.YtdpjiaedcmagdaaGreatDoor
open Go.Shelf Go.RowKit Go.Lib Go.Abs
set_option maxRecDepth 100000
theorem joinExtra : Builder.Extra Tryz.prog Tryz.laysJoin_ren where
  sizeBuilder := by kernel_rfl
  liesBuilder := by kernel_rfl
  t5 := Tryz.underlying5
  a5 := Tryz.isAgg5
  z5 := Tryz.sizeOf5
  v5 := Tryz.zeroValue5
  infoByte := by kernel_rfl
  cellsByte := by kernel_rfl
  sizeByte := by kernel_rfl
  neB5 := by decide
theorem join_none (p : Option Addr) (c : Nat) (sep : ByteArray) (w : World) : Calls Tryz.prog 30 #[.slice p 0 c, .string sep] w fun e w' => e = .returned (.string ⟨#[]⟩) ∧ w' = w := Any.strings_Join_none Tryz.laysJoin joinExtra p c sep w
theorem join_walk (bk o c : Nat) (xs : List ByteArray) (sep : ByteArray) (w : World) (h1 : ∀ (j : Nat) x, xs[j]? = some x → w.cell? ⟨bk, o + j, none⟩ = some (.string x)) (h2 : xs ≠ [] → bk < w.heap.size) (h3 : xs.length ≤ 140737488355328) (h4 : xs.length ≤ c)
    (h5 : (Lib.join (xs.map (·.data.toList)) sep.data.toList).length ≤ 140737488355328) : Calls Tryz.prog 30 #[.slice (some ⟨bk, o, none⟩) xs.length c, .string sep] w fun e w' => e = .returned (.string ⟨(Lib.join (xs.map (·.data.toList)) sep.data.toList).toArray⟩) ∧ Below w.heap.size w w' := by
  by_cases he : xs = []
  · subst he
    refine (join_none (some ⟨bk, o, none⟩) c sep w).mono fun e w' h => ?_
    obtain ⟨rfl, rfl⟩ := h
    exact ⟨rfl, Below.refl _ _⟩
  · exact Any.strings_Join Tryz.laysJoin joinExtra bk o c xs sep w h1 (h2 he) h3 h4 h5
theorem join_ok {gs out : List GV} (h : joinP gs = some out) : FnC Tryz.prog tabsL 30 [] [.sc] gs out := join_FnC join_none join_walk (enters_of Tryz.func30 (by kernel_rfl) rfl) h
end Go.Proofs.YtdpjiaedcmagdaaGreatDoor
