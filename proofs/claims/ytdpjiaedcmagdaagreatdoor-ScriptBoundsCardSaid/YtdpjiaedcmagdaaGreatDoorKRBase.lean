/- The evaluator over this program: its prims, its tables, its start. -/
import Derived.Test.YtdpjiaedcmagdaaGreatDoorAbsH
import GoSem.PinnedTables
import Derived.Stop.LaidErr
import Derived.Test.YtdpjiaedcmagdaaGreatDoorCards
import Derived.Test.YtdpjiaedcmagdaaGreatDoorTie
import Derived.ProofKit
import Derived.OpenShut
import Derived.Deep.DeepHandedRow
namespace Go.Proofs.YtdpjiaedcmagdaaGreatDoor
open Go.ChangeShapes Go.WideShapes Go.ChangeAt Go.RowKit Go.Abs
set_option maxRecDepth 100000

theorem own : ownKnob Tryz.prog.godebug = none := by kernel_rfl
theorem mixed : Tryz.prog.follows .mixedOrders = true := by kernel_rfl
theorem namesB : (Tryz.prog.funcs.toList.all fun fn => fn.body.isNone || !(fn.name == "runtime.NumGoroutine")) = true := by kernel_rfl
theorem names : NamesOk Tryz.prog := by
  intro f fn c hf hc
  have hm : fn ∈ Tryz.prog.funcs.toList := by
    rw [Array.getElem?_eq_some_iff] at hf
    obtain ⟨_, rfl⟩ := hf
    simp
  have := List.all_eq_true.1 namesB fn hm
  simpa [hc] using this

noncomputable def firstAV : List AV := (Go.Pinned.utf8FirstZ.map Int.ofNat).map fun z => AV.i .u8 z
def accZ : List Nat := [128, 191, 160, 191, 128, 159, 144, 191, 128, 143]
def accF (k : Nat) : Int := (accZ.getD k 0 : Nat)
noncomputable def accAV : List AV := (List.range (2 * 16)).map fun j => .i .u8 (accF j)
/-- The row's two tables. -/
def db64Z : List Int := [0, 1, 56, 2, 57, 49, 28, 3, 61, 58, 42, 50, 38, 29, 17, 4, 62, 47, 59, 36, 45, 43, 51, 22, 53, 39, 33, 30, 24, 18, 12, 5, 63, 55, 48, 27, 60, 41, 37, 16, 46, 35, 44, 21, 52, 32, 23, 11, 54, 26, 40, 15, 34, 20, 31, 10, 25, 14, 19, 9, 13, 8, 7, 6]
noncomputable def db64AV : List AV := db64Z.map fun z => AV.i .u8 z
def pow10Z : List Int := [1, 10, 100, 1000, 10000, 100000, 1000000, 10000000, 100000000, 1000000000, 10000000000, 100000000000, 1000000000000, 10000000000000, 100000000000000, 1000000000000000, 10000000000000000, 100000000000000000, 1000000000000000000, 10000000000000000000]
noncomputable def pow10AV : List AV := pow10Z.map fun z => AV.i .u64 z
noncomputable def tabsL : List (Nat × List AV) := [(1, firstAV), (2, accAV), (5, db64AV), (3, pow10AV), (7, []), (6, []), (0, [.z .i64 (-9223372036854775808) 9223372036854775807])]
noncomputable instance : TabsOf := { nodes := [], dec := [], tabs := tabsL, I := fun _ _ => none, val := fun _ => none, nodeOk := by intro n nd h; simp at h, decOk := by intro n b h; simp at h }

theorem x47 : Ext Tryz.prog 47 Extern.AbiNoEscape.same := Ext.mk' Tryz.func47 (by kernel_rfl) (by kernel_rfl) (by kernel_rfl) (by kernel_rfl)
theorem x261 : Ext Tryz.prog 261 Extern.BytealgCompare.compare := Ext.mk' Tryz.func261 (by kernel_rfl) (by kernel_rfl) (by kernel_rfl) (by kernel_rfl)
theorem x352 : Ext Tryz.prog 352 (fun args => Extern.ReflectliteValue.unpack (args.getD 0 (.tuple #[]))) := Ext.mk' Tryz.func352 (by kernel_rfl) (by kernel_rfl) (by kernel_rfl) (by kernel_rfl)
theorem x354 : Ext Tryz.prog 354 (Extern.ReflectliteValue.method (Extern.ReflectliteValue.valueError "reflectlite.Value.Len" 0) Extern.ReflectliteValue.len) := Ext.mk' Tryz.func354 (by kernel_rfl) (by kernel_rfl) (by kernel_rfl) (by kernel_rfl)
theorem x353 : Ext Tryz.prog 353 (Extern.ReflectliteSwapper.swapper "internal/reflectlite" (Extern.ReflectliteValue.valueError "Swapper")) := Ext.mk' Tryz.func353 (by kernel_rfl) (by kernel_rfl) (by kernel_rfl) (by kernel_rfl)
theorem x360 : Ext Tryz.prog 360 (Extern.ReflectliteSwapper.swap true) := Ext.mk' Tryz.func360 (by kernel_rfl) (by kernel_rfl) (by kernel_rfl) (by kernel_rfl)
theorem x361 : Ext Tryz.prog 361 (Extern.ReflectliteSwapper.swap true) := Ext.mk' Tryz.func361 (by kernel_rfl) (by kernel_rfl) (by kernel_rfl) (by kernel_rfl)
theorem x362 : Ext Tryz.prog 362 (Extern.ReflectliteSwapper.swap true) := Ext.mk' Tryz.func362 (by kernel_rfl) (by kernel_rfl) (by kernel_rfl) (by kernel_rfl)
theorem x363 : Ext Tryz.prog 363 (Extern.ReflectliteSwapper.swap true) := Ext.mk' Tryz.func363 (by kernel_rfl) (by kernel_rfl) (by kernel_rfl) (by kernel_rfl)
theorem x364 : Ext Tryz.prog 364 (Extern.ReflectliteSwapper.swap true) := Ext.mk' Tryz.func364 (by kernel_rfl) (by kernel_rfl) (by kernel_rfl) (by kernel_rfl)
theorem x365 : Ext Tryz.prog 365 (Extern.ReflectliteSwapper.swap true) := Ext.mk' Tryz.func365 (by kernel_rfl) (by kernel_rfl) (by kernel_rfl) (by kernel_rfl)
theorem x366 : Ext Tryz.prog 366 (Extern.ReflectliteSwapper.swap false) := Ext.mk' Tryz.func366 (by kernel_rfl) (by kernel_rfl) (by kernel_rfl) (by kernel_rfl)

theorem x278 : Ext Tryz.prog 278 add64Entry := Ext.mk' Tryz.func278 (by kernel_rfl) (by kernel_rfl) (by kernel_rfl) (by kernel_rfl)
theorem x63 : Ext Tryz.prog 63 Extern.BytealgCount.count := Ext.mk' Tryz.func63 (by kernel_rfl) (by kernel_rfl) (by kernel_rfl) (by kernel_rfl)
theorem x117 : Ext Tryz.prog 117 Extern.BytealgIndexByte.indexByte := Ext.mk' Tryz.func117 (by kernel_rfl) (by kernel_rfl) (by kernel_rfl) (by kernel_rfl)
theorem xMk : Ext Tryz.prog 85 (Extern.BytealgMakeNoZero.makeNoZero #[3] #[49]) := Ext.mk' Tryz.func85 (by kernel_rfl) (by kernel_rfl) (by kernel_rfl) (by kernel_rfl)

/-- Which function exchanges two elements: by the elements' kind. -/
def swTab : List (Nat × FuncId) := [(1, 358), (2, 359), (4, 361), (9, 366)]
theorem swTab_ok : SwTab Tryz.prog swTab := by
  intro p hp
  simp only [swTab, List.mem_cons, List.mem_nil_iff, or_false] at hp
  rcases hp with rfl | rfl | rfl | rfl <;> kernel_rfl

noncomputable def primList : List (FuncId × PFn) :=
  [(47, pNoEscape), (261, pCmp), (352, pValueOf Tryz.prog), (354, pLenV Tryz.prog), (353, pSwapper Tryz.prog swTab),
   (360, pSwap Tryz.prog), (361, pSwap Tryz.prog), (362, pSwap Tryz.prog), (363, pSwap Tryz.prog), (364, pSwap Tryz.prog), (365, pSwap Tryz.prog), (366, pSwap Tryz.prog), (278, pAdd64), (63, pCount), (117, pIndexByte), (85, pMakeNoZero 5)]

theorem primList_ok : ∀ p ∈ primList, PrimOk Tryz.prog p.1 p.2 := by
  intro p hp
  simp only [primList, List.mem_cons, List.mem_nil_iff, or_false] at hp
  rcases hp with rfl | rfl | rfl | rfl | rfl | rfl | rfl | rfl | rfl | rfl | rfl | rfl | rfl | rfl | rfl | rfl
  · exact pNoEscape_ok x47
  · exact pCmp_ok x261
  · exact pValueOf_ok x352
  · exact pLenV_ok x354
  · exact pSwapper_ok x353 swTab_ok
  · exact pSwap_ok x360
  · exact pSwap_ok x361
  · exact pSwap_ok x362
  · exact pSwap_ok x363
  · exact pSwap_ok x364
  · exact pSwap_ok x365
  · exact pSwap_ok x366
  · exact pAdd64_ok x278
  · exact pCount_ok x63
  · exact pIndexByte_ok x117
  · exact pMakeNoZero_ok xMk (t := 49) rfl (by kernel_rfl) (by decide) (by kernel_rfl)

noncomputable def call (pl : List (FuncId × PFn)) (n : Nat) : Caller := aCall Tryz.prog (aDraw Tryz.prog) (primTr pl) n
theorem call_ok {pl : List (FuncId × PFn)} (h : ∀ p ∈ pl, PrimOk Tryz.prog p.1 p.2) (n : Nat) : CallOk Tryz.prog (call pl n) := aCall_ok (draw_ok mixed) (primTr_ok h) names n

/-! ### The tables -/
theorem gFirst : Tryz.prog.globalNamed "unicode/utf8.first" = some 1 := by kernel_rfl
theorem gFirstType : (Tryz.prog.globals[1]?).map (·.type) = some 147 := by kernel_rfl
theorem underT : Tryz.prog.underlying 147 = some (.array 256 5) := by kernel_rfl
theorem underE : Tryz.prog.underlying 5 = some (.int .u8) := by kernel_rfl
theorem cellsT : Tryz.prog.cellsOf 147 = 256 := by kernel_rfl
theorem cellsE : Tryz.prog.cellsOf 5 = 1 := by kernel_rfl
theorem firstData : Go.Pinned.utf8First = Lib.tabData .u8 (Go.Pinned.utf8FirstZ.map Int.ofNat) := by kernel_rfl
theorem gAcc : Tryz.prog.globalNamed "unicode/utf8.acceptRanges" = some 2 := by kernel_rfl
theorem gAccType : (Tryz.prog.globals[2]?).map (·.type) = some 150 := by kernel_rfl
theorem cellsAcc : Tryz.prog.cellsOf 150 = 2 * 16 := by kernel_rfl
theorem cellsPair : Tryz.prog.cellsOf 148 = 2 := by kernel_rfl
theorem accData : (Rows.laid_unicode_utf8_acceptRanges : DataW Unit) = pairData .u8 16 accF := by kernel_rfl

theorem g_db64 : Tryz.prog.globalNamed "math/bits.deBruijn64tab" = some 5 := by kernel_rfl
theorem gt_db64 : (Tryz.prog.globals[5]?).map (·.type) = some 234 := by kernel_rfl
theorem ut_db64 : Tryz.prog.underlying 234 = some (.array 64 5) := by kernel_rfl
theorem ue_db64 : Tryz.prog.underlying 5 = some (.int .u8) := by kernel_rfl
theorem ct_db64 : Tryz.prog.cellsOf 234 = 64 := by kernel_rfl
theorem ce_db64 : Tryz.prog.cellsOf 5 = 1 := by kernel_rfl
theorem da_db64 : (Rows.laid_math_bits_deBruijn64tab : DataW Unit) = Lib.tabData .u8 db64Z := by kernel_rfl
theorem g_pow10 : Tryz.prog.globalNamed "internal/strconv.uint64pow10" = some 3 := by kernel_rfl
theorem gt_pow10 : (Tryz.prog.globals[3]?).map (·.type) = some 152 := by kernel_rfl
theorem ut_pow10 : Tryz.prog.underlying 152 = some (.array 20 23) := by kernel_rfl
theorem ue_pow10 : Tryz.prog.underlying 23 = some (.int .u64) := by kernel_rfl
theorem ct_pow10 : Tryz.prog.cellsOf 152 = 20 := by kernel_rfl
theorem ce_pow10 : Tryz.prog.cellsOf 23 = 1 := by kernel_rfl
theorem da_pow10 : (Rows.laid_internal_strconv_uint64pow10 : DataW Unit) = Lib.tabData .u64 pow10Z := by kernel_rfl
theorem g_if4 : Tryz.prog.globalNamed "strconv.ErrRange" = some 7 := by kernel_rfl
theorem gt_if4 : (Tryz.prog.globals[7]?).map (·.type) = some 53 := by kernel_rfl
theorem g_if5 : Tryz.prog.globalNamed "strconv.ErrSyntax" = some 6 := by kernel_rfl
theorem gt_if5 : (Tryz.prog.globals[6]?).map (·.type) = some 53 := by kernel_rfl
structure Tabs (W : World) : Prop where
  first : TabAt W 1 firstAV
  acc : TabAt W 2 accAV
  db64 : TabAt W 5 db64AV
  pow10 : TabAt W 3 pow10AV
  if4 : TabAt W 7 []
  if5 : TabAt W 6 []
  mlen : TabAt W 0 [.z .i64 (-9223372036854775808) 9223372036854775807]

theorem mlen_at {W : World} (h : W.ShapedOpen Tryz.prog) : TabAt W 0 [.z .i64 (-9223372036854775808) 9223372036854775807] := by
  obtain ⟨cs, hh, hs, hr⟩ := h.1 0 #[.int .i64 0] 3 (of_decide_eq_true (by kernel_rfl)) (by kernel_rfl)
  obtain ⟨ts, hts, _, hall⟩ := hr (by kernel_rfl)
  rw [show Tryz.prog.cellTypes Tryz.prog.depth 3 = some [3] from by kernel_rfl] at hts
  cases hts
  have h1 : 0 < cs.size := by rw [hs]; decide
  obtain ⟨u, hu', hok⟩ := hall 0 cs[0] (by simp [h1])
  have e : u = 3 := by simpa using hu'.symm
  subst e
  unfold Cell.ok at hok
  rw [show Tryz.prog.underlying 3 = some (.int .i64) from by kernel_rfl] at hok
  have hv : ∃ m, cs[0] = .int .i64 m ∧ -9223372036854775808 ≤ m ∧ m ≤ 9223372036854775807 := by
    generalize cs[0] = v at hok
    cases v <;> first | (simp at hok; done) | skip
    simp only at hok
    obtain ⟨hk, hn⟩ := hok
    refine ⟨_, by rw [hk], ?_, ?_⟩
    · exact hn.1
    · exact hn.2
  obtain ⟨m, hm, h2, h3⟩ := hv
  refine ⟨cs, _, _, hh, by rw [hs]; decide, fun k a ha => ?_, fun _ => by rw [hs]; rfl, fun h => by cases h⟩
  have hk : k = 0 := by
    have := (List.getElem?_eq_some_iff.1 ha).1
    simpa using this
  subst hk
  cases ha
  exact ⟨cs[0], by simp [h1], .inr ⟨_, _, _, m, rfl, hm, h2, h3⟩⟩
abbrev laidList : List (String × DataW Unit) := [("math/bits.deBruijn32tab", Rows.laid_math_bits_deBruijn32tab), ("math/bits.deBruijn64tab", Rows.laid_math_bits_deBruijn64tab), ("internal/strconv.uint64pow10", Rows.laid_internal_strconv_uint64pow10), ("unicode/utf8.acceptRanges", Rows.laid_unicode_utf8_acceptRanges), ("strconv.ErrRange", Rows.laid_strconv_ErrRange), ("strconv.ErrSyntax", Rows.laid_strconv_ErrSyntax), ("unicode/utf8.first", Rows.laid_unicode_utf8_first)]
theorem tabs {W : World} (h : laidMetH Tryz.prog laidList W) (hsh : W.ShapedOpen Tryz.prog) : Tabs W := by
  have h' : laidMet Tryz.prog laidList W := h
  have h2 := laidMet.tail (laidMet.tail (laidMet.tail (laidMet.tail (laidMet.tail (laidMet.tail (h'))))))
  rw [show Rows.laid_unicode_utf8_first = Lib.tabData .u8 (Go.Pinned.utf8FirstZ.map Int.ofNat) from firstData] at h2
  have t_db64 := laidMet.tail (h')
  rw [da_db64] at t_db64
  have t_pow10 := laidMet.tail (laidMet.tail (h'))
  rw [da_pow10] at t_pow10
  refine ⟨tabAt_ints (Lib.tabIs_of_head (rest := []) gFirst gFirstType underT underE cellsE cellsT h2) gFirst, ?_, tabAt_ints (Lib.tabIs_of_head g_db64 gt_db64 ut_db64 ue_db64 ce_db64 ct_db64 t_db64) g_db64, tabAt_ints (Lib.tabIs_of_head g_pow10 gt_pow10 ut_pow10 ue_pow10 ce_pow10 ct_pow10 t_pow10) g_pow10, tabAt_iface (show Lib.VarReads Tryz.prog W "strconv.ErrRange" Rows.laid_strconv_ErrRange from Lib.laidMet.reads h' (by simp)) g_if4 gt_if4 Tryz.underlying53, tabAt_iface (show Lib.VarReads Tryz.prog W "strconv.ErrSyntax" Rows.laid_strconv_ErrSyntax from Lib.laidMet.reads h' (by simp)) g_if5 gt_if5 Tryz.underlying53, mlen_at hsh⟩
  have h3 : Lib.VarReads Tryz.prog W "unicode/utf8.acceptRanges" (pairData .u8 16 accF) := by rw [← accData]; exact Lib.laidMet.reads h' (by simp)
  exact tabAt_pairs h3 gAcc gAccType Tryz.underlying150 Tryz.underlying148 (fun m fl hm => by
    match m, hm with
    | 0, hm => simp at hm; subst hm; exact ⟨underE, rfl, cellsE⟩
    | 1, hm => simp at hm; subst hm; exact ⟨underE, rfl, cellsE⟩
    | m + 2, hm => simp at hm) rfl cellsPair cellsAcc

noncomputable def σ0 : ASt := { h := (((Tr.nil.set 1 (some (.cells firstAV 0 false false))).set 2 (some (.cells accAV 0 false false))).set 5 (some (.cells db64AV 0 false false))).set 3 (some (.cells pow10AV 0 false false)), next := 40, lock := 0 }
theorem σ0_get {id : Nat} {o : AObj} (h : σ0.get id = some o) : (id = 1 ∧ o = .cells firstAV 0 false false) ∨ (id = 2 ∧ o = .cells accAV 0 false false) ∨ (id = 5 ∧ o = .cells db64AV 0 false false) ∨ (id = 3 ∧ o = .cells pow10AV 0 false false) := by
  have h' : Tr.get ((((Tr.nil.set 1 (some (.cells firstAV 0 false false))).set 2 (some (.cells accAV 0 false false))).set 5 (some (.cells db64AV 0 false false))).set 3 (some (.cells pow10AV 0 false false))) id = some o := h
  rw [Tr.get_set] at h'
  split at h'
  · next e => cases h'; exact .inr (.inr (.inr (⟨e, rfl⟩)))
  rw [Tr.get_set] at h'
  split at h'
  · next e => cases h'; exact .inr (.inr (.inl ⟨e, rfl⟩))
  rw [Tr.get_set] at h'
  split at h'
  · next e => cases h'; exact .inr (.inl ⟨e, rfl⟩)
  rw [Tr.get_set] at h'
  split at h'
  · next e => cases h'; exact .inl ⟨e, rfl⟩
  rw [Tr.get_nil] at h'; cases h'
theorem nGlobals : Tryz.prog.globals.size = 8 := by kernel_rfl
theorem σ0_start : TabStart σ0 Tryz.prog.globals.size := by
  refine ⟨by rw [nGlobals]; decide, fun id o ho => ?_⟩
  rw [nGlobals]
  rcases σ0_get ho with ⟨rfl, rfl⟩ | ⟨rfl, rfl⟩ | ⟨rfl, rfl⟩ | ⟨rfl, rfl⟩
  · exact ⟨_, rfl, by simp [TabsOf.tabs, tabsL], by decide⟩
  · exact ⟨_, rfl, by simp [TabsOf.tabs, tabsL], by decide⟩
  · exact ⟨_, rfl, by simp [TabsOf.tabs, tabsL], by decide⟩
  · exact ⟨_, rfl, by simp [TabsOf.tabs, tabsL], by decide⟩
theorem σ0_own : ∀ id o, σ0.get id = some o → o.own = false := σ0_start.own
/-- The start: all that stands in the world is frozen. -/
noncomputable abbrev η0 (W : World) : Env := envOf Tryz.prog.globals.size σ0 fun b => W.heap[b]?
theorem σ0_SR {W : World} (h : Tabs W) : SR Tryz.prog (η0 W) σ0 W := by
  have tb : ∀ p ∈ (TabsOf.tabs : List (Nat × List AV)), TabAt W p.1 p.2 := by
    intro p hp
    simp only [TabsOf.tabs, tabsL, List.mem_cons, List.mem_nil_iff, or_false] at hp
    rcases hp with rfl | rfl | rfl | rfl | rfl | rfl | rfl
    · exact h.first
    · exact h.acc
    · exact h.db64
    · exact h.pow10
    · exact h.if4
    · exact h.if5
    · exact h.mlen
  refine SR_start σ0_start.1 ?_ (fun b o hb => hb) ?_
  · intro id o ho
    obtain ⟨c, rfl, hm, hle⟩ := σ0_start.2 id o ho
    exact ⟨hle, c, rfl, tb _ hm⟩
  · intro p hp
    obtain ⟨cs, elem, fr, h1, h2⟩ := tb p hp
    exact ⟨cs, elem, fr, h1, h2⟩

def isT : Option (AV × ASt) → Bool | some (.b true, _) => true | _ => false
theorem isT_some {x : Option (AV × ASt)} (h : isT x = true) : ∃ σ', x = some (.b true, σ') := by
  unfold isT at h
  split at h
  · exact ⟨_, rfl⟩
  · cases h

/-- A run of the evaluator that says true: what the call does. -/
theorem calls_true {pl : List (FuncId × PFn)} (hpl : ∀ p ∈ pl, PrimOk Tryz.prog p.1 p.2) {f : FuncId} {fn : Func} {n : Nat} {args : List AV} {vs : List Value} {W : World} (hf : Tryz.prog.funcs[f]? = some fn) (hc : fn.body.isSome = true) (hrun : isT (call pl n f args σ0) = true)
    (hT : Tabs W) (hv : VRs (η0 W) args vs) : Calls Tryz.prog f ⟨vs⟩ W fun e W' => e = .returned (.bool true) ∧ Kept W W' := by
  obtain ⟨σ', hs⟩ := isT_some hrun
  obtain ⟨c, hc⟩ := Option.isSome_iff_exists.1 hc
  refine Calls.mono' (kept_calls (call_ok hpl n) names hf hc hs (σ0_SR hT) hv σ0_own) ?_
  rintro e W' ⟨v, rfl, ⟨η', hr⟩, hk⟩
  simp only [VR] at hr
  exact ⟨by rw [hr], hk⟩

/-- A closed call that the evaluator has run to true: from now on one step. -/
abbrev closed (f : FuncId) : FuncId × PFn := (f, pClosed)
theorem closed_ok {pl : List (FuncId × PFn)} (hpl : ∀ p ∈ pl, PrimOk Tryz.prog p.1 p.2) {f : FuncId} {n : Nat} (hrun : isT (call pl n f [] σ0) = true) : ∀ p ∈ closed f :: pl, PrimOk Tryz.prog p.1 p.2 := by
  obtain ⟨σ', hs⟩ := isT_some hrun
  intro p hp
  rcases List.mem_cons.1 hp with rfl | hp
  · exact pClosed_ok (call_ok hpl n) σ0_start hs
  · exact hpl p hp

/-- A world for the witness: both tables hold what their initialisers lay. -/
def lay (c : Array Value) : Obj → Obj
  | .cells _ t frozen => .cells c t frozen
  | o => o
noncomputable def laidWorld (os : Os) : World :=
  { World.holding Tryz.prog os ⟨#[], #[], []⟩ with heap := ((((((((((World.holding Tryz.prog os ⟨#[], #[], []⟩).heap.modify 1 (lay (Go.Pinned.utf8FirstZ.map fun x => Value.int .u8 (Int.ofNat x)).toArray)).modify 2 (lay ((List.range (2 * 16)).map fun j => Value.int .u8 (accF j)).toArray)).modify 4 (lay #[.int .u8 0, .int .u8 1, .int .u8 28, .int .u8 2, .int .u8 29, .int .u8 14, .int .u8 24, .int .u8 3, .int .u8 30, .int .u8 22, .int .u8 20, .int .u8 15, .int .u8 25, .int .u8 17, .int .u8 4, .int .u8 8, .int .u8 31, .int .u8 27, .int .u8 13, .int .u8 23, .int .u8 21, .int .u8 19, .int .u8 16, .int .u8 7, .int .u8 26, .int .u8 12, .int .u8 18, .int .u8 6, .int .u8 11, .int .u8 5, .int .u8 10, .int .u8 9])).modify 5 (lay #[.int .u8 0, .int .u8 1, .int .u8 56, .int .u8 2, .int .u8 57, .int .u8 49, .int .u8 28, .int .u8 3, .int .u8 61, .int .u8 58, .int .u8 42, .int .u8 50, .int .u8 38, .int .u8 29, .int .u8 17, .int .u8 4, .int .u8 62, .int .u8 47, .int .u8 59, .int .u8 36, .int .u8 45, .int .u8 43, .int .u8 51, .int .u8 22, .int .u8 53, .int .u8 39, .int .u8 33, .int .u8 30, .int .u8 24, .int .u8 18, .int .u8 12, .int .u8 5, .int .u8 63, .int .u8 55, .int .u8 48, .int .u8 27, .int .u8 60, .int .u8 41, .int .u8 37, .int .u8 16, .int .u8 46, .int .u8 35, .int .u8 44, .int .u8 21, .int .u8 52, .int .u8 32, .int .u8 23, .int .u8 11, .int .u8 54, .int .u8 26, .int .u8 40, .int .u8 15, .int .u8 34, .int .u8 20, .int .u8 31, .int .u8 10, .int .u8 25, .int .u8 14, .int .u8 19, .int .u8 9, .int .u8 13, .int .u8 8, .int .u8 7, .int .u8 6])).modify 3 (lay #[.int .u64 1, .int .u64 10, .int .u64 100, .int .u64 1000, .int .u64 10000, .int .u64 100000, .int .u64 1000000, .int .u64 10000000, .int .u64 100000000, .int .u64 1000000000, .int .u64 10000000000, .int .u64 100000000000, .int .u64 1000000000000, .int .u64 10000000000000, .int .u64 100000000000000, .int .u64 1000000000000000, .int .u64 10000000000000000, .int .u64 100000000000000000, .int .u64 1000000000000000000, .int .u64 10000000000000000000])).modify 7 (lay #[.iface 275 (.pointer (some ⟨(World.holding Tryz.prog os ⟨#[], #[], []⟩).heap.size + 0, 0, none⟩))])).modify 6 (lay #[.iface 275 (.pointer (some ⟨(World.holding Tryz.prog os ⟨#[], #[], []⟩).heap.size + 1, 0, none⟩))])).push (.cells #[.string ⟨#[118, 97, 108, 117, 101, 32, 111, 117, 116, 32, 111, 102, 32, 114, 97, 110, 103, 101]⟩] 277 (0, 0))).push (.cells #[.string ⟨#[105, 110, 118, 97, 108, 105, 100, 32, 115, 121, 110, 116, 97, 120]⟩] 277 (0, 0))) }

end Go.Proofs.YtdpjiaedcmagdaaGreatDoor
