/- The evaluator over this program: its prims, its tables, its start. -/
import Derived.Test.YtehcokoigbiciaaGreatDoorAbsH
import GoSem.PinnedTables
import Derived.Stop.LaidErr
import Derived.Test.YtehcokoigbiciaaGreatDoorCards
import Derived.Test.YtehcokoigbiciaaGreatDoorTie
import Derived.ProofKit
import Derived.OpenShut
import Derived.Deep.DeepHandedRow
namespace Go.Proofs.YtehcokoigbiciaaGreatDoor
open Go.ChangeShapes Go.WideShapes Go.ChangeAt Go.RowKit Go.Abs
set_option maxRecDepth 100000

theorem own : ownKnob Tryz.prog.godebug = none := by kernel_rfl
theorem mixed : Tryz.prog.follows .mixedOrders = true := by kernel_rfl
theorem namesB : (Tryz.prog.funcs.toList.all fun fn => fn.body.isNone || !(fn.name == "runtime.NumGoroutine")) = true := by kernel_rfl
theorem names : NamesOk Tryz.prog := by
  intro f fn c hf hc
  have hm : fn ∈ Tryz.prog.funcs.toList := by
    rw [Array.getElem?_eq_some_iff] at hf
    obtain ⟨_, rfl⟩ := hf
    simp
  have := List.all_eq_true.1 namesB fn hm
  simpa [hc] using this

noncomputable def firstAV : List AV := (Go.Pinned.utf8FirstZ.map Int.ofNat).map fun z => AV.i .u8 z
def accZ : List Nat := [128, 191, 160, 191, 128, 159, 144, 191, 128, 143]
def accF (k : Nat) : Int := (accZ.getD k 0 : Nat)
noncomputable def accAV : List AV := (List.range (2 * 16)).map fun j => .i .u8 (accF j)
/-- The row's two tables. -/
noncomputable def tabsL : List (Nat × List AV) := [(1, firstAV), (2, accAV)]
noncomputable instance : TabsOf := { nodes := [], dec := [], tabs := tabsL, I := fun _ _ => none, val := fun _ => none, nodeOk := by intro n nd h; simp at h, decOk := by intro n b h; simp at h }

theorem x82 : Ext Tryz.prog 82 Extern.AbiNoEscape.same := Ext.mk' Tryz.func82 (by kernel_rfl) (by kernel_rfl) (by kernel_rfl) (by kernel_rfl)
theorem x113 : Ext Tryz.prog 113 Extern.BytealgCompare.compare := Ext.mk' Tryz.func113 (by kernel_rfl) (by kernel_rfl) (by kernel_rfl) (by kernel_rfl)
theorem x38 : Ext Tryz.prog 38 (fun args => Extern.ReflectliteValue.unpack (args.getD 0 (.tuple #[]))) := Ext.mk' Tryz.func38 (by kernel_rfl) (by kernel_rfl) (by kernel_rfl) (by kernel_rfl)
theorem x40 : Ext Tryz.prog 40 (Extern.ReflectliteValue.method (Extern.ReflectliteValue.valueError "reflectlite.Value.Len" 0) Extern.ReflectliteValue.len) := Ext.mk' Tryz.func40 (by kernel_rfl) (by kernel_rfl) (by kernel_rfl) (by kernel_rfl)
theorem x39 : Ext Tryz.prog 39 (Extern.ReflectliteSwapper.swapper "internal/reflectlite" (Extern.ReflectliteValue.valueError "Swapper")) := Ext.mk' Tryz.func39 (by kernel_rfl) (by kernel_rfl) (by kernel_rfl) (by kernel_rfl)
theorem x57 : Ext Tryz.prog 57 (Extern.ReflectliteSwapper.swap true) := Ext.mk' Tryz.func57 (by kernel_rfl) (by kernel_rfl) (by kernel_rfl) (by kernel_rfl)
theorem x58 : Ext Tryz.prog 58 (Extern.ReflectliteSwapper.swap true) := Ext.mk' Tryz.func58 (by kernel_rfl) (by kernel_rfl) (by kernel_rfl) (by kernel_rfl)
theorem x59 : Ext Tryz.prog 59 (Extern.ReflectliteSwapper.swap true) := Ext.mk' Tryz.func59 (by kernel_rfl) (by kernel_rfl) (by kernel_rfl) (by kernel_rfl)
theorem x60 : Ext Tryz.prog 60 (Extern.ReflectliteSwapper.swap true) := Ext.mk' Tryz.func60 (by kernel_rfl) (by kernel_rfl) (by kernel_rfl) (by kernel_rfl)
theorem x61 : Ext Tryz.prog 61 (Extern.ReflectliteSwapper.swap true) := Ext.mk' Tryz.func61 (by kernel_rfl) (by kernel_rfl) (by kernel_rfl) (by kernel_rfl)
theorem x62 : Ext Tryz.prog 62 (Extern.ReflectliteSwapper.swap true) := Ext.mk' Tryz.func62 (by kernel_rfl) (by kernel_rfl) (by kernel_rfl) (by kernel_rfl)
theorem x63 : Ext Tryz.prog 63 (Extern.ReflectliteSwapper.swap false) := Ext.mk' Tryz.func63 (by kernel_rfl) (by kernel_rfl) (by kernel_rfl) (by kernel_rfl)


/-- Which function exchanges two elements: by the elements' kind. -/
def swTab : List (Nat × FuncId) := [(1, 55), (2, 56), (4, 58), (9, 63)]
theorem swTab_ok : SwTab Tryz.prog swTab := by
  intro p hp
  simp only [swTab, List.mem_cons, List.mem_nil_iff, or_false] at hp
  rcases hp with rfl | rfl | rfl | rfl <;> kernel_rfl

noncomputable def primList : List (FuncId × PFn) :=
  [(82, pNoEscape), (113, pCmp), (38, pValueOf Tryz.prog), (40, pLenV Tryz.prog), (39, pSwapper Tryz.prog swTab),
   (57, pSwap Tryz.prog), (58, pSwap Tryz.prog), (59, pSwap Tryz.prog), (60, pSwap Tryz.prog), (61, pSwap Tryz.prog), (62, pSwap Tryz.prog), (63, pSwap Tryz.prog)]

theorem primList_ok : ∀ p ∈ primList, PrimOk Tryz.prog p.1 p.2 := by
  intro p hp
  simp only [primList, List.mem_cons, List.mem_nil_iff, or_false] at hp
  rcases hp with rfl | rfl | rfl | rfl | rfl | rfl | rfl | rfl | rfl | rfl | rfl | rfl
  · exact pNoEscape_ok x82
  · exact pCmp_ok x113
  · exact pValueOf_ok x38
  · exact pLenV_ok x40
  · exact pSwapper_ok x39 swTab_ok
  · exact pSwap_ok x57
  · exact pSwap_ok x58
  · exact pSwap_ok x59
  · exact pSwap_ok x60
  · exact pSwap_ok x61
  · exact pSwap_ok x62
  · exact pSwap_ok x63

noncomputable def call (pl : List (FuncId × PFn)) (n : Nat) : Caller := aCall Tryz.prog (aDraw Tryz.prog) (primTr pl) n
theorem call_ok {pl : List (FuncId × PFn)} (h : ∀ p ∈ pl, PrimOk Tryz.prog p.1 p.2) (n : Nat) : CallOk Tryz.prog (call pl n) := aCall_ok (draw_ok mixed) (primTr_ok h) names n

/-! ### The tables -/
theorem gFirst : Tryz.prog.globalNamed "unicode/utf8.first" = some 1 := by kernel_rfl
theorem gFirstType : (Tryz.prog.globals[1]?).map (·.type) = some 153 := by kernel_rfl
theorem underT : Tryz.prog.underlying 153 = some (.array 256 5) := by kernel_rfl
theorem underE : Tryz.prog.underlying 5 = some (.int .u8) := by kernel_rfl
theorem cellsT : Tryz.prog.cellsOf 153 = 256 := by kernel_rfl
theorem cellsE : Tryz.prog.cellsOf 5 = 1 := by kernel_rfl
theorem firstData : Go.Pinned.utf8First = Lib.tabData .u8 (Go.Pinned.utf8FirstZ.map Int.ofNat) := by kernel_rfl
theorem gAcc : Tryz.prog.globalNamed "unicode/utf8.acceptRanges" = some 2 := by kernel_rfl
theorem gAccType : (Tryz.prog.globals[2]?).map (·.type) = some 156 := by kernel_rfl
theorem cellsAcc : Tryz.prog.cellsOf 156 = 2 * 16 := by kernel_rfl
theorem cellsPair : Tryz.prog.cellsOf 154 = 2 := by kernel_rfl
theorem accData : (Rows.laid_unicode_utf8_acceptRanges : DataW Unit) = pairData .u8 16 accF := by kernel_rfl

structure Tabs (W : World) : Prop where
  first : TabAt W 1 firstAV
  acc : TabAt W 2 accAV

abbrev laidList : List (String × DataW Unit) := [("unicode/utf8.acceptRanges", Rows.laid_unicode_utf8_acceptRanges), ("unicode/utf8.first", Rows.laid_unicode_utf8_first)]
theorem tabs {W : World} (h : laidMetH Tryz.prog laidList W) : Tabs W := by
  have h' : laidMet Tryz.prog laidList W := h
  have h2 := laidMet.tail h'
  rw [show Rows.laid_unicode_utf8_first = Lib.tabData .u8 (Go.Pinned.utf8FirstZ.map Int.ofNat) from firstData] at h2
  refine ⟨tabAt_ints (Lib.tabIs_of_head (rest := []) gFirst gFirstType underT underE cellsE cellsT h2) gFirst, ?_⟩
  have h3 : Lib.VarReads Tryz.prog W "unicode/utf8.acceptRanges" (pairData .u8 16 accF) := by rw [← accData]; exact Lib.laidMet.reads h' (by simp)
  exact tabAt_pairs h3 gAcc gAccType Tryz.underlying156 Tryz.underlying154 (fun m fl hm => by
    match m, hm with
    | 0, hm => simp at hm; subst hm; exact ⟨underE, rfl, cellsE⟩
    | 1, hm => simp at hm; subst hm; exact ⟨underE, rfl, cellsE⟩
    | m + 2, hm => simp at hm) rfl cellsPair cellsAcc

noncomputable def σ0 : ASt := { h := (Tr.nil.set 1 (some (.cells firstAV 0 false false))).set 2 (some (.cells accAV 0 false false)), next := 40, lock := 0 }
theorem σ0_get {id : Nat} {o : AObj} (h : σ0.get id = some o) : (id = 1 ∧ o = .cells firstAV 0 false false) ∨ (id = 2 ∧ o = .cells accAV 0 false false) := by
  have h' := (Tr.get_set (Tr.nil.set 1 (some (AObj.cells firstAV 0 false false))) 2 id (some (AObj.cells accAV 0 false false))).symm.trans h
  split at h'
  · next e => cases h'; exact .inr ⟨e, rfl⟩
  · rw [Tr.get_set] at h'
    split at h'
    · next e => cases h'; exact .inl ⟨e, rfl⟩
    · rw [Tr.get_nil] at h'; cases h'
theorem nGlobals : Tryz.prog.globals.size = 3 := by kernel_rfl
theorem σ0_start : TabStart σ0 Tryz.prog.globals.size := by
  refine ⟨by rw [nGlobals]; decide, fun id o ho => ?_⟩
  rw [nGlobals]
  rcases σ0_get ho with ⟨rfl, rfl⟩ | ⟨rfl, rfl⟩
  · exact ⟨_, rfl, by simp [TabsOf.tabs, tabsL], by decide⟩
  · exact ⟨_, rfl, by simp [TabsOf.tabs, tabsL], by decide⟩
theorem σ0_own : ∀ id o, σ0.get id = some o → o.own = false := σ0_start.own
/-- The start: all that stands in the world is frozen. -/
noncomputable abbrev η0 (W : World) : Env := envOf Tryz.prog.globals.size σ0 fun b => W.heap[b]?
theorem σ0_SR {W : World} (h : Tabs W) : SR Tryz.prog (η0 W) σ0 W := by
  have tb : ∀ p ∈ (TabsOf.tabs : List (Nat × List AV)), TabAt W p.1 p.2 := by
    intro p hp
    simp only [TabsOf.tabs, tabsL, List.mem_cons, List.mem_nil_iff, or_false] at hp
    rcases hp with rfl | rfl
    · exact h.first
    · exact h.acc
  refine SR_start σ0_start.1 ?_ (fun b o hb => hb) ?_
  · intro id o ho
    obtain ⟨c, rfl, hm, hle⟩ := σ0_start.2 id o ho
    exact ⟨hle, c, rfl, tb _ hm⟩
  · intro p hp
    obtain ⟨cs, elem, fr, h1, h2⟩ := tb p hp
    exact ⟨cs, elem, fr, h1, h2⟩

def isT : Option (AV × ASt) → Bool | some (.b true, _) => true | _ => false
theorem isT_some {x : Option (AV × ASt)} (h : isT x = true) : ∃ σ', x = some (.b true, σ') := by
  unfold isT at h
  split at h
  · exact ⟨_, rfl⟩
  · cases h

/-- A run of the evaluator that says true: what the call does. -/
theorem calls_true {pl : List (FuncId × PFn)} (hpl : ∀ p ∈ pl, PrimOk Tryz.prog p.1 p.2) {f : FuncId} {fn : Func} {n : Nat} {args : List AV} {vs : List Value} {W : World} (hf : Tryz.prog.funcs[f]? = some fn) (hc : fn.body.isSome = true) (hrun : isT (call pl n f args σ0) = true)
    (hT : Tabs W) (hv : VRs (η0 W) args vs) : Calls Tryz.prog f ⟨vs⟩ W fun e W' => e = .returned (.bool true) ∧ Kept W W' := by
  obtain ⟨σ', hs⟩ := isT_some hrun
  obtain ⟨c, hc⟩ := Option.isSome_iff_exists.1 hc
  refine Calls.mono' (kept_calls (call_ok hpl n) names hf hc hs (σ0_SR hT) hv σ0_own) ?_
  rintro e W' ⟨v, rfl, ⟨η', hr⟩, hk⟩
  simp only [VR] at hr
  exact ⟨by rw [hr], hk⟩

/-- A closed call that the evaluator has run to true: from now on one step. -/
abbrev closed (f : FuncId) : FuncId × PFn := (f, pClosed)
theorem closed_ok {pl : List (FuncId × PFn)} (hpl : ∀ p ∈ pl, PrimOk Tryz.prog p.1 p.2) {f : FuncId} {n : Nat} (hrun : isT (call pl n f [] σ0) = true) : ∀ p ∈ closed f :: pl, PrimOk Tryz.prog p.1 p.2 := by
  obtain ⟨σ', hs⟩ := isT_some hrun
  intro p hp
  rcases List.mem_cons.1 hp with rfl | hp
  · exact pClosed_ok (call_ok hpl n) σ0_start hs
  · exact hpl p hp

/-- A world for the witness: both tables hold what their initialisers lay. -/
def lay (c : Array Value) : Obj → Obj
  | .cells _ t frozen => .cells c t frozen
  | o => o
noncomputable def laidWorld (os : Os) : World :=
  { World.holding Tryz.prog os ⟨#[], #[], []⟩ with heap := ((World.holding Tryz.prog os ⟨#[], #[], []⟩).heap.modify 1 (lay (Go.Pinned.utf8FirstZ.map fun x => Value.int .u8 (Int.ofNat x)).toArray)).modify 2 (lay ((List.range (2 * 16)).map fun j => Value.int .u8 (accF j)).toArray) }

end Go.Proofs.YtehcokoigbiciaaGreatDoor
