/- The law TableTells holds: what its call computes is told by a tree of values, proved of the program by a run of its ways, and the tree says true for all values. Conditions: the row's own two tables, and its reach. -/
import Derived.Test.YtehcokoigbiciaaGreatDoorKTableTellsLift
import Derived.Test.YtehcokoigbiciaaGreatDoorKTableTellsFacts
namespace Go.Proofs.YtehcokoigbiciaaGreatDoor
open Go.ChangeShapes Go.WideShapes Go.ChangeAt Go.RowKit Go.Abs
set_option maxRecDepth 100000
namespace TableTells

/-- Where no body starts a goroutine, no call does. -/
theorem goes_none {P : Program} (h : (P.funcs.toList.all fun fn => !fn.goes) = true) (f : FuncId) : P.goes f = false := by
  have hf : ∀ fn ∈ P.funcs.toList, fn.goes = false := fun fn hm => by simpa using List.all_eq_true.1 h fn hm
  unfold Program.goes
  rw [Bool.or_eq_false_iff]
  constructor
  · rw [List.any_eq_false]
    intro g _
    cases hg : P.funcs[g]? with
    | none => simp
    | some fn =>
      have hm : fn ∈ P.funcs.toList := by
        obtain ⟨_, rfl⟩ := Array.getElem?_eq_some_iff.1 hg
        simp
      simp [hf fn hm]
  · have : P.funcs.any Func.goes = false := by
      rw [← Array.any_toList, List.any_eq_false]
      intro fn hm
      rw [hf fn hm]; simp
    rw [this, Bool.and_false]
theorem goesBy_none {P : Program} (h : (P.funcs.toList.all fun fn => !fn.goes) = true) (c : OpenClaim) : false = c.goesBy P := by
  have hg : P.goes = fun _ => false := funext (goes_none h)
  unfold OpenClaim.goesBy Program.goesAt Program.goesFrom
  rw [hg]
  cases P.funcNamed c.func <;> cases c.start <;> simp
theorem noGoes : (Tryz.pinned.checked.prog.funcs.toList.all fun fn => !fn.goes) = true := by kernel_rfl
theorem said : Rows.TableTellsSaid :=
  OpenClaim.holds_of_cond 3 Tryz.f3 rfl rfl rfl rfl rfl rfl rfl ⟨rfl, rfl, rfl, rfl, rfl⟩ rfl rfl rfl rfl rfl named Tryz.func3 joined
    inst wrap
    (fun os started H enc _ F => by rw [OpenClaim.pre_eq_preRow]; exact lifted os started H enc F)

theorem card : Rows.TableTellsCardSaid :=
  Claim7.holds_tied_plain_at .later [] _ _ _ _ said (fun _ h => by cases h) (by as_aux_lemma => kernel_rfl) (fun _ h => by cases h) tableTells_row_tie rfl ⟨rfl, rfl⟩ (by as_aux_lemma => kernel_rfl) rfl plain (goesBy_none noGoes _)
end TableTells
#print axioms TableTells.card
end Go.Proofs.YtehcokoigbiciaaGreatDoor
