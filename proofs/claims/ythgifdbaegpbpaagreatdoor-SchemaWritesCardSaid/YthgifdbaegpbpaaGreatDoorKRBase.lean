/- The evaluator over this program: its prims, its tables, its start. -/
import Derived.Test.YthgifdbaegpbpaaGreatDoorAbsH
import GoSem.PinnedTables
import Derived.Stop.LaidErr
import Derived.Test.YthgifdbaegpbpaaGreatDoorCards
import Derived.Test.YthgifdbaegpbpaaGreatDoorTie
import Derived.ProofKit
import Derived.OpenShut
import Derived.Deep.DeepHandedRow
namespace Go.Proofs.YthgifdbaegpbpaaGreatDoor
open Go.ChangeShapes Go.WideShapes Go.ChangeAt Go.RowKit Go.aP
set_option maxRecDepth 100000
theorem own:ownKnob Tryz.prog.godebug=none:=by kernel_rfl
theorem mixed:Tryz.prog.follows .mixedOrders=true:=by kernel_rfl
theorem akJ:(Tryz.prog.funcs.toList.all fun fn=>fn.body.isNone || !(fn.name == "runtime.NumGoroutine"))=true:=by kernel_rfl
theorem names:qX Tryz.prog:=by
 intro f fn c hf hc
 have hm:fn∈Tryz.prog.funcs.toList:=by
  rw [Array.getElem?_eq_some_iff] at hf
  obtain ⟨_,rfl⟩:=hf
  simp
 have:=List.all_eq_true.1 akJ fn hm
 simpa [hc] using this
noncomputable def CP:List AV:=(Go.Pinned.utf8FirstZ.map Int.ofNat).map fun z=>AV.i .u8 z
def ae9:List Nat:=[128,191,160,191,128,159,144,191,128,143]
def Hf (k:Nat):Int:=(ae9.getD k 0:Nat)
noncomputable def zA:List AV:=(List.range (2 * 16)).map fun j=>.i .u8 (Hf j)
/-- The row's two tables. -/
noncomputable def aH:List (Nat×List AV):=[(0,CP),(1,zA)]
noncomputable instance:aC:={ nodes:=[],dec:=[],tabs:=aH,I:=fun _ _=>none,val:=fun _=>none,l7:=by intro n nd h;simp at h,uI:=by intro n b h;simp at h }
theorem ae1:Ext Tryz.prog 210 Extern.AbiNoEscape.same:=Ext.mk' Tryz.func210 (by kernel_rfl) (by kernel_rfl) (by kernel_rfl) (by kernel_rfl)
theorem arF:Ext Tryz.prog 269 Extern.BytealgCompare.compare:=Ext.mk' Tryz.func269 (by kernel_rfl) (by kernel_rfl) (by kernel_rfl) (by kernel_rfl)
theorem arG:Ext Tryz.prog 279 (fun args=>Extern.ReflectliteValue.unpack (args.getD 0 (.tuple #[]))):=Ext.mk' Tryz.func279 (by kernel_rfl) (by kernel_rfl) (by kernel_rfl) (by kernel_rfl)
theorem arI:Ext Tryz.prog 281 (Extern.ReflectliteValue.method (Extern.ReflectliteValue.valueError "reflectlite.Value.Len" 0) Extern.ReflectliteValue.len):=Ext.mk' Tryz.func281 (by kernel_rfl) (by kernel_rfl) (by kernel_rfl) (by kernel_rfl)
theorem arH:Ext Tryz.prog 280 (Extern.ReflectliteSwapper.swapper "internal/reflectlite" (Extern.ReflectliteValue.valueError "Swapper")):=Ext.mk' Tryz.func280 (by kernel_rfl) (by kernel_rfl) (by kernel_rfl) (by kernel_rfl)
theorem arJ:Ext Tryz.prog 287 (Extern.ReflectliteSwapper.swap true):=Ext.mk' Tryz.func287 (by kernel_rfl) (by kernel_rfl) (by kernel_rfl) (by kernel_rfl)
theorem arK:Ext Tryz.prog 288 (Extern.ReflectliteSwapper.swap true):=Ext.mk' Tryz.func288 (by kernel_rfl) (by kernel_rfl) (by kernel_rfl) (by kernel_rfl)
theorem arL:Ext Tryz.prog 289 (Extern.ReflectliteSwapper.swap true):=Ext.mk' Tryz.func289 (by kernel_rfl) (by kernel_rfl) (by kernel_rfl) (by kernel_rfl)
theorem arM:Ext Tryz.prog 290 (Extern.ReflectliteSwapper.swap true):=Ext.mk' Tryz.func290 (by kernel_rfl) (by kernel_rfl) (by kernel_rfl) (by kernel_rfl)
theorem arN:Ext Tryz.prog 291 (Extern.ReflectliteSwapper.swap true):=Ext.mk' Tryz.func291 (by kernel_rfl) (by kernel_rfl) (by kernel_rfl) (by kernel_rfl)
theorem arO:Ext Tryz.prog 292 (Extern.ReflectliteSwapper.swap true):=Ext.mk' Tryz.func292 (by kernel_rfl) (by kernel_rfl) (by kernel_rfl) (by kernel_rfl)
theorem arP:Ext Tryz.prog 293 (Extern.ReflectliteSwapper.swap false):=Ext.mk' Tryz.func293 (by kernel_rfl) (by kernel_rfl) (by kernel_rfl) (by kernel_rfl)
/-- Which function exchanges two elements: by the elements' kind. -/
def S9:List (Nat×FuncId):=[(1,285),(2,286),(4,288),(9,293)]
theorem apg:Ub Tryz.prog S9:=by
 intro p hp
 simp only [S9,List.mem_cons,List.mem_nil_iff,or_false] at hp
 rcases hp with rfl | rfl | rfl | rfl<;>kernel_rfl
noncomputable def JD:List (FuncId×dS):=
 [(210,FP),(269,QY),(279,Q8 Tryz.prog),(281,QZ Tryz.prog),(280,Q7 Tryz.prog S9),
  (287,wP Tryz.prog),(288,wP Tryz.prog),(289,wP Tryz.prog),(290,wP Tryz.prog),(291,wP Tryz.prog),(292,wP Tryz.prog),(293,wP Tryz.prog)]
theorem alH:∀p∈JD,dU Tryz.prog p.1 p.2:=by
 intro p hp
 simp only [JD,List.mem_cons,List.mem_nil_iff,or_false] at hp
 rcases hp with rfl | rfl | rfl | rfl | rfl | rfl | rfl | rfl | rfl | rfl | rfl | rfl
 ·exact acQ ae1
 ·exact alb arF
 ·exact alf arG
 ·exact alc arI
 ·exact ale arH apg
 ·exact AB arJ
 ·exact AB arK
 ·exact AB arL
 ·exact AB arM
 ·exact AB arN
 ·exact AB arO
 ·exact AB arP
noncomputable def call (pl:List (FuncId×dS)) (n:Nat):Caller:=Ue Tryz.prog (GL Tryz.prog) (RN pl) n
theorem BR {pl:List (FuncId×dS)} (h:∀p∈pl,dU Tryz.prog p.1 p.2) (n:Nat):l9 Tryz.prog (call pl n):=ae6 (aaf mixed) (acY h) names n
/-! ### The tables -/
theorem aa1:Tryz.prog.globalNamed "unicode/utf8.first" = some 0:=by kernel_rfl
theorem aib:(Tryz.prog.globals[0]?).map (·.type)=some 340:=by kernel_rfl
theorem aqW:Tryz.prog.underlying 340=some (.array 256 5):=by kernel_rfl
theorem TB:Tryz.prog.underlying 5=some (.int .u8):=by kernel_rfl
theorem afN:Tryz.prog.cellsOf 340=256:=by kernel_rfl
theorem cellsE:Tryz.prog.cellsOf 5=1:=by kernel_rfl
theorem firstData:Go.Pinned.utf8First=Lib.tabData .u8 (Go.Pinned.utf8FirstZ.map Int.ofNat):=by kernel_rfl
theorem ah9:Tryz.prog.globalNamed "unicode/utf8.acceptRanges" = some 1:=by kernel_rfl
theorem aia:(Tryz.prog.globals[1]?).map (·.type)=some 343:=by kernel_rfl
theorem afI:Tryz.prog.cellsOf 343=2 * 16:=by kernel_rfl
theorem afM:Tryz.prog.cellsOf 341=2:=by kernel_rfl
theorem ae8:(Rows.laid_unicode_utf8_acceptRanges:DataW Unit)=Q9 .u8 16 Hf:=by kernel_rfl
structure Tabs (W:World):Prop where
 first:TabAt W 0 CP
 acc:TabAt W 1 zA
abbrev abG:List (String×DataW Unit):=[("unicode/utf8.acceptRanges", Rows.laid_unicode_utf8_acceptRanges),("unicode/utf8.first", Rows.laid_unicode_utf8_first)]
theorem tabs {W:World} (h:laidMetH Tryz.prog abG W):Tabs W:=by
 have h':laidMet Tryz.prog abG W:=h
 have h2:=laidMet.tail h'
 rw [show Rows.laid_unicode_utf8_first=Lib.tabData .u8 (Go.Pinned.utf8FirstZ.map Int.ofNat) from firstData] at h2
 refine ⟨aqg (Lib.tabIs_of_head (rest:=[]) aa1 aib aqW TB cellsE afN h2) aa1, ?_⟩
 have h3:Lib.VarReads Tryz.prog W "unicode/utf8.acceptRanges" (Q9 .u8 16 Hf):=by rw [← ae8];exact Lib.laidMet.reads h' (by simp)
 exact aqh h3 ah9 aia Tryz.underlying343 Tryz.underlying341 (fun m fl hm=>by
  match m,hm with
  | 0,hm=>simp at hm;subst hm;exact ⟨TB,rfl,cellsE⟩
  | 1,hm=>simp at hm;subst hm;exact ⟨TB,rfl,cellsE⟩
  | m+2,hm=>simp at hm) rfl afM afI
noncomputable def σ0:ah:={ h:=(Tr.nil.set 0 (some (.cells CP 0 false false))).set 1 (some (.cells zA 0 false false)),next:=40,lock:=0 }
theorem arV {id:Nat} {o:aZ} (h:σ0.get id=some o):(id=0∧o=.cells CP 0 false false)∨(id=1∧o=.cells zA 0 false false):=by
 have h':=(Tr.qg (Tr.nil.set 0 (some (aZ.cells CP 0 false false))) 1 id (some (aZ.cells zA 0 false false))).symm.trans h
 split at h'
 ·next e=>cases h';exact .inr ⟨e,rfl⟩
 ·rw [Tr.qg] at h'
  split at h'
  ·next e=>cases h';exact .inl ⟨e,rfl⟩
  ·rw [Tr.get_nil] at h';cases h'
theorem QE:Tryz.prog.globals.size=3:=by kernel_rfl
theorem zu:rX σ0 Tryz.prog.globals.size:=by
 refine ⟨by rw [QE];decide,fun id o ho=>?_⟩
 rw [QE]
 rcases arV ho with ⟨rfl,rfl⟩ | ⟨rfl,rfl⟩
 ·exact ⟨_,rfl,by simp [aC.tabs,aH],by decide⟩
 ·exact ⟨_,rfl,by simp [aC.tabs,aH],by decide⟩
theorem arW:∀id o,σ0.get id=some o→o.own=false:=zu.own
/-- The start: all that stands in the world is frozen. -/
noncomputable abbrev η0 (W:World):Env:=oM Tryz.prog.globals.size σ0 fun b=>W.heap[b]?
theorem arU {W:World} (h:Tabs W):SR Tryz.prog (η0 W) σ0 W:=by
 have tb:∀p∈(aC.tabs:List (Nat×List AV)),TabAt W p.1 p.2:=by
  intro p hp
  simp only [aC.tabs,aH,List.mem_cons,List.mem_nil_iff,or_false] at hp
  rcases hp with rfl | rfl
  ·exact h.first
  ·exact h.acc
 refine BA zu.1 ?_ (fun b o hb=>hb) ?_
 ·intro id o ho
  obtain ⟨c,rfl,hm,hle⟩:=zu.2 id o ho
  exact ⟨hle,c,rfl,tb _ hm⟩
 ·intro p hp
  obtain ⟨cs,elem,fr,h1,h2⟩:=tb p hp
  exact ⟨cs,elem,fr,h1,h2⟩
def jK:Option (AV×ah)→Bool | some (.b true,_)=>true | _=>false
theorem P7 {x:Option (AV×ah)} (h:jK x=true):∃σ',x=some (.b true,σ'):=by
 unfold jK at h
 split at h
 ·exact ⟨_,rfl⟩
 ·cases h
/-- A run of the evaluator that says true: what the call does. -/
theorem asC {pl:List (FuncId×dS)} (hpl:∀p∈pl,dU Tryz.prog p.1 p.2) {f:FuncId} {fn:Func} {n:Nat} {args:List AV} {vs:List Value} {W:World} (hf:Tryz.prog.funcs[f]? = some fn) (hc:fn.body.isSome=true) (hrun:jK (call pl n f args σ0)=true)
 (hT:Tabs W) (hv:aj (η0 W) args vs):Calls Tryz.prog f ⟨vs⟩ W fun e W'=>e=.returned (.bool true)∧Kept W W':=by
 obtain ⟨σ',hs⟩:=P7 hrun
 obtain ⟨c,hc⟩:=Option.isSome_iff_exists.1 hc
 refine Calls.mono' (ajB (BR hpl n) names hf hc hs (arU hT) hv arW) ?_
 rintro e W' ⟨v,rfl,⟨η',hr⟩,hk⟩
 simp only [VR] at hr
 exact ⟨by rw [hr],hk⟩
/-- A closed call that the evaluator has run to true: from now on one step. -/
abbrev closed (f:FuncId):FuncId×dS:=(f,AA)
theorem lY {pl:List (FuncId×dS)} (hpl:∀p∈pl,dU Tryz.prog p.1 p.2) {f:FuncId} {n:Nat} (hrun:jK (call pl n f [] σ0)=true):∀p∈closed f::pl,dU Tryz.prog p.1 p.2:=by
 obtain ⟨σ',hs⟩:=P7 hrun
 intro p hp
 rcases List.mem_cons.1 hp with rfl | hp
 ·exact ala (BR hpl n) zu hs
 ·exact hpl p hp
/-- A world for the witness: both tables hold what their initialisers lay. -/
def lay (c:Array Value):Obj→Obj
 | .cells _ t frozen=>.cells c t frozen
 | o=>o
noncomputable def laidWorld (os:Os):World:=
 { World.holding Tryz.prog os ⟨#[], #[],[]⟩ with heap:=((World.holding Tryz.prog os ⟨#[], #[],[]⟩).heap.modify 0 (lay (Go.Pinned.utf8FirstZ.map fun x=>Value.int .u8 (Int.ofNat x)).toArray)).modify 1 (lay ((List.range (2 * 16)).map fun j=>Value.int .u8 (Hf j)).toArray) }
end Go.Proofs.YthgifdbaegpbpaaGreatDoor
