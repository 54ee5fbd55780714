/- Library functions that are told: slices.Clone, utf8.ValidString. -/
import Derived.Test.YtckgelanagoenaaGreatDoorAbsJ
import Derived.Laws.AppendOwn
import Derived.Lib.ValidU
namespace Go.Abs
open Go.RowKit
noncomputable section
set_option linter.unusedSectionVars false
set_option linter.unusedVariables false
variable {P : Program}
def cloneP (bytes size : Nat) : List GV → Option (List GV)
  | [.l xs] => if xs.length * bytes ≤ 140737488355328 ∧ xs.all (GV.elemOk size) = true then some [.l xs] else none
  | _ => none
def validP : List GV → Option (List GV)
  | [.s x] => if x.length ≤ 9223372036854775807 then some [.b (Lib.validD x)] else none
  | _ => none
theorem Kept.of_below {w w' : World} (h : Below w.heap.size w w') : Kept w w' := ⟨h.os, h.tape, h.output, h.size, fun bl hb => h.block bl hb⟩
def roAll (ro : Nat → Option Obj) (w w' : World) : Nat → Option Obj := fun b => if b < w.heap.size then ro b else w'.heap[b]?
theorem roStep_all {tabs : List (Nat × List AV)} {ro : Nat → Option Obj} {w w' : World} (hro : RoOk tabs ro w) (h : Below w.heap.size w w') : RoStep ro (roAll ro w w') w w' := by
  letI : TabsOf := Tg [] [] 0
  refine ⟨Kept.of_below h, fun b o hb => ?_, fun b hb => ?_, fun b o hb => ?_⟩
  · show (if _ then _ else _) = _
    rw [if_pos (getLt (hro.at' b o hb))]; exact hb
  · have hb' : (if b < w.heap.size then ro b else w'.heap[b]?) ≠ none := hb
    split at hb'
    · exact .inl hb'
    · next hn => exact .inr (by omega)
  · have hb' : (if b < w.heap.size then ro b else w'.heap[b]?) = some o := hb
    split at hb'
    · next hn => rw [h.block b hn]; exact hro.at' b o hb'
    · exact hb'
theorem valid_FnC {tabs : List (Nat × List AV)} {f : FuncId} (walk : ∀ (s : ByteArray) (w : World) (ro : Nat → Option Obj), RoOk tabs ro w → s.size ≤ 9223372036854775807 → Calls P f #[.string s] w fun e w' => e = .returned (.bool (Lib.validD s.data.toList)) ∧ Below w.heap.size w w')
    (enters : ∀ args w, (callFunc f args).run P w = .ok (.enter f args) w) {gs out : List GV} (h : validP gs = some out) : FnC P tabs f [] [.sc] gs out := by
  unfold validP at h
  split at h
  rotate_left
  · cases h
  next x =>
  split at h
  rotate_left
  · cases h
  next hx =>
  cases h
  letI : TabsOf := Tg [] [] 0
  refine ⟨fun ro w vs hro hvs => ?_, rfl⟩
  simp only [GRs, GR] at hvs
  obtain ⟨v, l, rfl, rfl, rfl⟩ := hvs
  refine .inr ⟨enters _ w, Calls.mono' (walk ⟨⟨x⟩⟩ w ro hro hx) ?_⟩
  rintro e w' ⟨rfl, hb⟩
  exact ⟨_, rfl, roAll ro w w', roStep_all hro hb, [_], rfl, by simp [GRs, GR]⟩
end
end Go.Abs
