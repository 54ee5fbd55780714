/- strings.ReplaceAll of one byte: the kit's contract, laid here. -/
import Derived.Test.YtdpjiaedcmagdaaGreatDoorProg
import Derived.Test.YtdpjiaedcmagdaaGreatDoorKRBase
import Derived.Test.YtdpjiaedcmagdaaGreatDoorAbsScr2
import Derived.Shelf.Lay
import Derived.Ground.NamesProg
import Derived.Shelf.Strings.Replace
namespace Go.Proofs
open Go.Shelf
shelf_lay Lays.n155 Nm 155 at Tryz as Tryz.laysRepl
end Go.Proofs
namespace Go.Proofs.YtdpjiaedcmagdaaGreatDoor
open Go.Shelf Go.RowKit Go.Lib Go.Abs
set_option maxRecDepth 100000
theorem replExtra : Builder.Extra Tryz.prog Tryz.laysRepl_ren where
  sizeBuilder := by kernel_rfl
  liesBuilder := by kernel_rfl
  t5 := Tryz.laysRepl.t5
  a5 := Tryz.laysRepl.a5
  z5 := Tryz.laysRepl.z5
  v5 := Tryz.laysRepl.v5
  infoByte := by kernel_rfl
  cellsByte := by kernel_rfl
  sizeByte := by kernel_rfl
  neB5 := by decide
theorem mlen_cell {ro : Nat → Option Obj} {w : World} (hro : RoOk tabsL ro w) : ∃ m, w.cell? ⟨0, 0, none⟩ = some (.int .i64 m) := by
  obtain ⟨cs, elem, fr, h1, -, h3, -, -⟩ := hro.tab (0, [.z .i64 (-9223372036854775808) 9223372036854775807]) (by simp [tabsL])
  obtain ⟨x, hx, hv⟩ := h3 0 _ rfl
  rcases hv with hv | ⟨k, lo, hi, m, he, rfl, -, -⟩
  · cases hv
  · cases he
    refine ⟨m, ?_⟩
    unfold World.cell?
    rw [hro.at' _ _ h1]
    simpa using hx
theorem put_same (c : UInt8) : ∀ x : List UInt8, putB c [c] x = x
  | [] => rfl
  | b :: x => by
    have ih := put_same c x
    unfold putB at ih ⊢
    rw [List.flatMap_cons, ih]
    by_cases h : b = c
    · rw [if_pos h, h]; rfl
    · rw [if_neg h]; rfl
theorem repl_put (c : UInt8) (new x : List UInt8) : Lib.replaceAll x [c] new = putB c new x := by
  unfold Lib.replaceAll Lib.replace
  split
  · next h =>
    rw [← eq_of_beq h, put_same]
  · rw [show Lib.replaceNum x [c] (-1) = Lib.count x [c] from by simp [Lib.replaceNum]]
    exact put_eq c new x
theorem repl_walk (x new : List UInt8) (c : UInt8) (m : Int) (w : World) (hm : w.cell? ⟨0, 0, none⟩ = some (.int .i64 m)) (h1 : x.length < 4294967281) (h2 : x.length + x.length * new.length ≤ 140737488355328) :
    Calls Tryz.prog 11 #[.string ⟨⟨x⟩⟩, .string ⟨⟨[c]⟩⟩, .string ⟨⟨new⟩⟩] w fun e w' => e = .returned (.string ⟨⟨putB c new x⟩⟩) ∧ Below w.heap.size w w' := by
  have hle : Lib.countB ⟨⟨x⟩⟩ ⟨⟨[c]⟩⟩ ≤ x.length := Lib.countB_le ⟨⟨[c]⟩⟩ (Nat.le_refl 1) x.length ⟨⟨x⟩⟩ (Nat.le_refl _)
  have k := Any.strings_ReplaceAll Tryz.laysRepl replExtra ⟨⟨x⟩⟩ ⟨⟨[c]⟩⟩ ⟨⟨new⟩⟩ m w h1 hm (Nat.le_refl 1) (by
    have := Nat.mul_le_mul_right new.length hle
    show x.length + Lib.countB ⟨⟨x⟩⟩ ⟨⟨[c]⟩⟩ * new.length ≤ 140737488355328
    omega)
  refine k.mono ?_
  rintro e w' ⟨rfl, hb⟩
  refine ⟨?_, hb⟩
  show Ending.returned (Value.string ⟨(Lib.replaceAll x [c] new).toArray⟩) = _
  rw [repl_put]
theorem repl_ok {gs out : List GV} (h : replP gs = some out) : FnC Tryz.prog tabsL 11 [] [.sc] gs out := by
  unfold replP at h
  split at h
  rotate_left
  · cases h
  next x c new =>
  split at h
  rotate_left
  · cases h
  next hc =>
  cases h
  letI : TabsOf := Tg [] [] 0
  refine ⟨fun ro w vs hro hvs => ?_, rfl⟩
  simp only [GRs] at hvs
  obtain ⟨v1, _, rfl, hv1, v2, _, rfl, hv2, v3, _, rfl, hv3, rfl⟩ := hvs
  simp only [GR] at hv1 hv2 hv3
  subst hv1 hv2 hv3
  obtain ⟨m, hm⟩ := mlen_cell hro
  refine .inr ⟨enters_of Tryz.func11 (by kernel_rfl) rfl _ w, Calls.mono' (repl_walk x new c m w hm hc.1 hc.2) ?_⟩
  rintro e w' ⟨rfl, hb⟩
  exact ⟨_, rfl, roAll ro w w', roStep_all hro hb, [_], rfl, by simp [GRs, GR]⟩
end Go.Proofs.YtdpjiaedcmagdaaGreatDoor
