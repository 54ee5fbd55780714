/- Values that are known on the way of a walk by hand: calls of functions that are told by values. -/
import Derived.Test.YtehcokoigbiciaaGreatDoorAbsTold
import Derived.Test.YtehcokoigbiciaaGreatDoorAbsJ
import Derived.WalkKit
namespace Go.Abs
open Go.RowKit
set_option linter.unusedVariables false
set_option linter.unusedSimpArgs false
set_option linter.unusedSectionVars false
variable {P : Program} {tabs : List (Nat × List AV)}
/-- Values that are known in a world, on the way from another one. -/
def Kn (tabs : List (Nat × List AV)) (ro0 : Nat → Option Obj) (w0 : World) (gs : List GV) (vs : List Value) (w : World) : Prop := ∃ ro, RoOk tabs ro w ∧ RoStep ro0 ro w0 w ∧ GRs ro gs vs
theorem Kept.trans' {a b c : World} (h : Kept a b) (k : Kept b c) : Kept a c :=
  ⟨k.os.trans h.os, k.tape.trans h.tape, k.output.trans h.output, Nat.le_trans h.size k.size, fun i hi => (k.keep i (Nat.lt_of_lt_of_le hi h.size)).trans (h.keep i hi)⟩
theorem RoStep.trans' {a b c : Nat → Option Obj} {u v w : World} (h : RoStep a b u v) (k : RoStep b c v w) : RoStep a c u w :=
  ⟨h.kept.trans' k.kept, fun x o e => k.le x o (h.le x o e), fun x e => (k.new x e).elim (h.new x) fun q => .inr (Nat.le_trans h.kept.size q), k.at'⟩
theorem RoOk.lt {ro : Nat → Option Obj} {w : World} (h : RoOk tabs ro w) {b : Nat} {o : Obj} (e : ro b = some o) : b < w.heap.size := (Array.getElem?_eq_some_iff.1 (h.at' b o e)).1
theorem Kn.start {ro : Nat → Option Obj} {w : World} {gs : List GV} {vs : List Value} (h : RoOk tabs ro w) (hg : GRs ro gs vs) : Kn tabs ro w gs vs w :=
  ⟨ro, h, ⟨⟨rfl, rfl, rfl, Nat.le_refl _, fun _ _ => rfl⟩, fun _ _ e => e, fun _ e => .inl e, h.at'⟩, hg⟩
theorem Kn.kept {ro0 : Nat → Option Obj} {w0 w w' : World} {gs : List GV} {vs : List Value} (h : Kn tabs ro0 w0 gs vs w) (k : Kept w w') : Kn tabs ro0 w0 gs vs w' := by
  obtain ⟨ro, h1, h2, h3⟩ := h
  have ha : ∀ b o, ro b = some o → w'.heap[b]? = some o := fun b o e => (k.keep b (h1.lt e)).trans (h1.at' b o e)
  exact ⟨ro, ⟨ha, h1.tab⟩, h2.trans' ⟨k, fun _ _ e => e, fun _ e => .inl e, ha⟩, h3⟩
theorem GRs.len0 {ro : Nat → Option Obj} {gs : List GV} {vs : List Value} (h : GRs ro gs vs) : gs.length = vs.length := by letI : TabsOf := Tg [] [] 0; exact h.length
theorem GRs.at0 {ro : Nat → Option Obj} {l : List GV} {vs : List Value} (h : GRs ro l vs) {k : Nat} {a : GV} (e : l[k]? = some a) : ∃ x, vs[k]? = some x ∧ GR ro a x := by letI : TabsOf := Tg [] [] 0; exact h.at e
theorem GRs.app0 {ro : Nat → Option Obj} {l m : List GV} {vs us : List Value} (h : GRs ro l vs) (k : GRs ro m us) : GRs ro (l ++ m) (vs ++ us) := by letI : TabsOf := Tg [] [] 0; exact GRs.append h k
def sel {α : Type} (l : List α) : List Nat → List α
  | [] => []
  | i :: is => (l[i]?).toList ++ sel l is
theorem GRs.sel {ro : Nat → Option Obj} {gs : List GV} {vs : List Value} (h : GRs ro gs vs) : ∀ is : List Nat, GRs ro (Abs.sel gs is) (Abs.sel vs is)
  | [] => by simp only [Abs.sel, GRs]
  | i :: is => by
    have ih := h.sel is
    simp only [Abs.sel]
    cases hg : gs[i]? with
    | none =>
      have : vs[i]? = none := by rw [List.getElem?_eq_none_iff] at hg ⊢; rw [← h.len0]; exact hg
      rw [this]
      exact ih
    | some g =>
      obtain ⟨x, hx, hgx⟩ := h.at0 hg
      rw [hx]
      exact GRs.app0 (by simp only [Option.toList, GRs]; exact ⟨x, [], rfl, hgx, rfl⟩) ih
theorem Kn.call (hn : NamesOk P) {f : FuncId} {fn : Func} {c : Code} {ro0 : Nat → Option Obj} {w0 w : World} {gs ags out : List GV} {vs avs : List Value} (hf : P.funcs[f]? = some fn) (hc : fn.body = some c) (hP : PureC P tabs f [] ags out)
    (h : Kn tabs ro0 w0 gs vs w) (is : List Nat) (ha : Abs.sel gs is = ags) (hv : Abs.sel vs is = avs) :
    Calls P f avs.toArray w fun e w' => ∃ us, e = .returned (tupV us) ∧ Kn tabs ro0 w0 (gs ++ out) (vs ++ us) w' ∧ ∃ ro, GRs ro out us := by
  letI : TabsOf := Tg [] [] 0
  obtain ⟨ro, h1, h2, h3⟩ := h
  refine Calls.mono' (CallN.calls hn hf hc (hP ro w avs h1 (by rw [← ha, ← hv]; exact h3.sel is))) ?_
  rintro e w' ⟨v, rfl, ro', hs, us, rfl, hg⟩
  refine ⟨us, rfl, ⟨ro', ⟨hs.at', fun p hp => ?_⟩, h2.trans' hs, GRs.app0 (GRs.mono hs.le _ _ h3) hg⟩, ro', hg⟩
  obtain ⟨cs, elem, fr, e1, e2⟩ := h1.tab p hp
  exact ⟨cs, elem, fr, hs.le _ _ e1, e2⟩
theorem Kn.take {ro0 : Nat → Option Obj} {w0 w : World} {gs ms : List GV} {vs us : List Value} (h : Kn tabs ro0 w0 (gs ++ ms) (vs ++ us) w) (hl : gs.length = vs.length) : Kn tabs ro0 w0 gs vs w := by
  obtain ⟨ro, h1, h2, h3⟩ := h
  refine ⟨ro, h1, h2, ?_⟩
  clear h2
  induction gs generalizing vs with
  | nil => cases vs with
    | nil => simp only [GRs]
    | cons => simp at hl
  | cons g gs ih => cases vs with
    | nil => simp at hl
    | cons v vs =>
      simp only [List.cons_append, GRs, List.cons.injEq] at h3 ⊢
      obtain ⟨x, xs, ⟨rfl, rfl⟩, e1, e2⟩ := h3
      exact ⟨_, _, ⟨rfl, rfl⟩, e1, ih (by simpa using hl) e2⟩
section
variable {f : FuncId} {fn : Func} {c : Code} {ro0 : Nat → Option Obj} {w0 w : World} {gs ags : List GV} {vs avs : List Value}
theorem Kn.len (h : Kn tabs ro0 w0 gs vs w) : gs.length = vs.length := by obtain ⟨_, _, _, h⟩ := h; exact h.len0
/-- A truth value comes back. -/
theorem Kn.callB {x : Bool} (hn : NamesOk P) (hf : P.funcs[f]? = some fn) (hc : fn.body = some c) (hP : PureC P tabs f [] ags [.b x]) (h : Kn tabs ro0 w0 gs vs w) (is : List Nat) (ha : Abs.sel gs is = ags) (hv : Abs.sel vs is = avs) :
    Calls P f avs.toArray w fun e w' => e = .returned (.bool x) ∧ Kn tabs ro0 w0 gs vs w' := by
  letI : TabsOf := Tg [] [] 0
  refine Calls.mono' (Kn.call hn hf hc hP h is ha hv) ?_
  rintro e w' ⟨us, rfl, hk, ro, hg⟩
  simp only [GRs, GR] at hg
  obtain ⟨_, _, rfl, rfl, rfl⟩ := hg
  exact ⟨rfl, hk.take h.len⟩
theorem Kn.callI {k : IntKind} {x : Int} (hn : NamesOk P) (hf : P.funcs[f]? = some fn) (hc : fn.body = some c) (hP : PureC P tabs f [] ags [.i k x]) (h : Kn tabs ro0 w0 gs vs w) (is : List Nat) (ha : Abs.sel gs is = ags) (hv : Abs.sel vs is = avs) :
    Calls P f avs.toArray w fun e w' => e = .returned (.int k x) ∧ Kn tabs ro0 w0 gs vs w' := by
  letI : TabsOf := Tg [] [] 0
  refine Calls.mono' (Kn.call hn hf hc hP h is ha hv) ?_
  rintro e w' ⟨us, rfl, hk, ro, hg⟩
  simp only [GRs, GR] at hg
  obtain ⟨_, _, rfl, rfl, rfl⟩ := hg
  exact ⟨rfl, hk.take h.len⟩
theorem Kn.callL {x : GV} (hn : NamesOk P) (hf : P.funcs[f]? = some fn) (hc : fn.body = some c) (hP : PureC P tabs f [] ags [x]) (h : Kn tabs ro0 w0 gs vs w) (is : List Nat) (ha : Abs.sel gs is = ags) (hv : Abs.sel vs is = avs) :
    Calls P f avs.toArray w fun e w' => ∃ v, e = .returned v ∧ Kn tabs ro0 w0 (gs ++ [x]) (vs ++ [v]) w' := by
  letI : TabsOf := Tg [] [] 0
  refine Calls.mono' (Kn.call hn hf hc hP h is ha hv) ?_
  rintro e w' ⟨us, rfl, hk, ro, hg⟩
  simp only [GRs] at hg
  obtain ⟨v, _, rfl, _, rfl⟩ := hg
  exact ⟨v, rfl, hk⟩
theorem Kn.callLI {x : GV} {k : IntKind} {y : Int} (hn : NamesOk P) (hf : P.funcs[f]? = some fn) (hc : fn.body = some c) (hP : PureC P tabs f [] ags [x, .i k y]) (h : Kn tabs ro0 w0 gs vs w) (is : List Nat) (ha : Abs.sel gs is = ags) (hv : Abs.sel vs is = avs) :
    Calls P f avs.toArray w fun e w' => ∃ v, e = .returned (.tuple #[v, .int k y]) ∧ Kn tabs ro0 w0 (gs ++ [x]) (vs ++ [v]) w' := by
  letI : TabsOf := Tg [] [] 0
  refine Calls.mono' (Kn.call hn hf hc hP h is ha hv) ?_
  rintro e w' ⟨us, rfl, hk, ro, hg⟩
  simp only [GRs, GR] at hg
  obtain ⟨v, _, rfl, _, _, _, rfl, rfl, rfl⟩ := hg
  refine ⟨v, rfl, ?_⟩
  rw [show gs ++ [x, GV.i k y] = (gs ++ [x]) ++ [.i k y] by simp, show vs ++ [v, Value.int k y] = (vs ++ [v]) ++ [.int k y] by simp] at hk
  exact hk.take (by simp [h.len])
end
/-- A row's values. -/
def isEnt : GV → Bool
  | .g [.s _, .s _] => true
  | _ => false
def isRow : GV → Bool
  | .g [.l es, .i .u64 _] => !es.isEmpty && es.all isEnt && decide (es.length * 32 ≤ 140737488355328)
  | _ => false
theorem ent_cells {ro : Nat → Option Obj} {g : GV} {v : Value} (h : isEnt g = true) (hv : GR ro g v) : v.cells.size = 2 ∧ ∀ u ∈ v.cells.toList, u.oneCell' = true := by
  unfold isEnt at h
  split at h
  · simp only [GR, GRs] at hv
    obtain ⟨_, rfl, _, _, rfl, rfl, _, _, rfl, rfl, rfl⟩ := hv
    refine ⟨rfl, fun u hu => ?_⟩
    simp [Value.cells] at hu
    rcases hu with rfl | rfl <;> rfl
  · cases h
theorem cells_at {ro : Nat → Option Obj} {w : World} (hro : ∀ b o, ro b = some o → w.heap[b]? = some o) {bl off : Nat} {cs : Array Value} {elem : TypeId} {fr : Nat × Nat} {l : List Value} (hb : ro bl = some (.cells cs elem fr)) (hc : cellsAt cs off l) (j : Nat) (u : Value) (hj : l[j]? = some u) : w.cell? ⟨bl, off + j, none⟩ = some u := by
  rw [cell_of_row w bl (off + j) cs elem fr (hro _ _ hb)]
  exact hc j u hj
end Go.Abs
