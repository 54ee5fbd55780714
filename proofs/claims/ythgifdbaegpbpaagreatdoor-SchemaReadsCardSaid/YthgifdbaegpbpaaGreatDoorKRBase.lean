/- The evaluator over this program: its prims, its tables, its start. -/
import Derived.Test.YthgifdbaegpbpaaGreatDoorAbsH
import GoSem.PinnedTables
import Derived.Stop.LaidErr
import Derived.Test.YthgifdbaegpbpaaGreatDoorCards
import Derived.Test.YthgifdbaegpbpaaGreatDoorTie
import Derived.ProofKit
import Derived.OpenShut
import Derived.Deep.DeepHandedRow
namespace Go.Proofs.YthgifdbaegpbpaaGreatDoor
open Go.ChangeShapes Go.WideShapes Go.ChangeAt Go.RowKit Go.aK
set_option maxRecDepth 100000
theorem own:ownKnob Tryz.prog.godebug=none:=by kernel_rfl
theorem mixed:Tryz.prog.follows .mixedOrders=true:=by kernel_rfl
theorem akb:(Tryz.prog.funcs.toList.all λfn=>fn.body.isNone || !(fn.name == "runtime.NumGoroutine"))=true:=by kernel_rfl
theorem names:sH Tryz.prog:=by
 intro f fn c hf hc;have hm:fn∈Tryz.prog.funcs.toList:=by
  rw [oL] at hf;obtain ⟨_,rfl⟩:=hf;simp
 have:=List.all_eq_true.1 akb fn hm;simpa [hc] using this
noncomputable def F8:List AV:=(Go.Pinned.utf8FirstZ.map Int.ofNat).map λz=>AV.i .u8 z
def adU:List Nat:=[128,191,160,191,128,159,144,191,128,143]
def LC (k:Nat):Int:=(adU.getD k 0:Nat)
noncomputable def Dq:List AV:=(List.range (2 * 16)).map λj=>.i .u8 (LC j)
/-- The row's two tables. -/
noncomputable def dW:List (Nat×List AV):=[(0,F8),(1,Dq)]
noncomputable instance:aH:={ nodes:=[],dec:=[],tabs:=dW,I:=λ_ _=>none,val:=λ_=>none,oZ:=by intro n nd h;simp at h,yD:=by intro n b h;simp at h }
theorem adE:Ext Tryz.prog 210 Extern.AbiNoEscape.same:=Ext.mk' Tryz.func210 (by kernel_rfl) (by kernel_rfl) (by kernel_rfl) (by kernel_rfl)
theorem arl:Ext Tryz.prog 269 Extern.BytealgCompare.compare:=Ext.mk' Tryz.func269 (by kernel_rfl) (by kernel_rfl) (by kernel_rfl) (by kernel_rfl)
theorem arn:Ext Tryz.prog 279 (λargs=>Extern.ReflectliteValue.unpack (args.getD 0 (.tuple #[]))):=Ext.mk' Tryz.func279 (by kernel_rfl) (by kernel_rfl) (by kernel_rfl) (by kernel_rfl)
theorem arp:Ext Tryz.prog 281 (Extern.ReflectliteValue.method (Extern.ReflectliteValue.valueError "reflectlite.Value.Len" 0) Extern.ReflectliteValue.len):=Ext.mk' Tryz.func281 (by kernel_rfl) (by kernel_rfl) (by kernel_rfl) (by kernel_rfl)
theorem aro:Ext Tryz.prog 280 (Extern.ReflectliteSwapper.swapper "internal/reflectlite" (Extern.ReflectliteValue.valueError "Swapper")):=Ext.mk' Tryz.func280 (by kernel_rfl) (by kernel_rfl) (by kernel_rfl) (by kernel_rfl)
theorem arq:Ext Tryz.prog 287 (Extern.ReflectliteSwapper.swap true):=Ext.mk' Tryz.func287 (by kernel_rfl) (by kernel_rfl) (by kernel_rfl) (by kernel_rfl)
theorem ars:Ext Tryz.prog 288 (Extern.ReflectliteSwapper.swap true):=Ext.mk' Tryz.func288 (by kernel_rfl) (by kernel_rfl) (by kernel_rfl) (by kernel_rfl)
theorem aru:Ext Tryz.prog 289 (Extern.ReflectliteSwapper.swap true):=Ext.mk' Tryz.func289 (by kernel_rfl) (by kernel_rfl) (by kernel_rfl) (by kernel_rfl)
theorem arv:Ext Tryz.prog 290 (Extern.ReflectliteSwapper.swap true):=Ext.mk' Tryz.func290 (by kernel_rfl) (by kernel_rfl) (by kernel_rfl) (by kernel_rfl)
theorem arw:Ext Tryz.prog 291 (Extern.ReflectliteSwapper.swap true):=Ext.mk' Tryz.func291 (by kernel_rfl) (by kernel_rfl) (by kernel_rfl) (by kernel_rfl)
theorem arx:Ext Tryz.prog 292 (Extern.ReflectliteSwapper.swap true):=Ext.mk' Tryz.func292 (by kernel_rfl) (by kernel_rfl) (by kernel_rfl) (by kernel_rfl)
theorem arz:Ext Tryz.prog 293 (Extern.ReflectliteSwapper.swap false):=Ext.mk' Tryz.func293 (by kernel_rfl) (by kernel_rfl) (by kernel_rfl) (by kernel_rfl)
/-- Which function exchanges two elements: by the elements' kind. -/
def VK:List (Nat×FuncId):=[(1,285),(2,286),(4,288),(9,293)]
theorem ap5:Xq Tryz.prog VK:=by
 intro p hp;simp only [VK,dR,Ig,or_false] at hp;rcases hp with rfl | rfl | rfl | rfl<;>kernel_rfl
noncomputable def OA:List (FuncId×dY):=
 [(210,JL),(269,Ug),(279,Uj Tryz.prog),(281,Uh Tryz.prog),(280,Ui Tryz.prog VK),
  (287,AL Tryz.prog),(288,AL Tryz.prog),(289,AL Tryz.prog),(290,AL Tryz.prog),(291,AL Tryz.prog),(292,AL Tryz.prog),(293,AL Tryz.prog)]
theorem ak6:∀p∈OA,dZ Tryz.prog p.1 p.2:=by
 intro p hp;simp only [OA,dR,Ig,or_false] at hp;rcases hp with rfl | rfl | rfl | rfl | rfl | rfl | rfl | rfl | rfl | rfl | rfl | rfl
 ·exact abC adE
 ·exact akC arl
 ·exact akG arn
 ·exact akD arp
 ·exact akF aro ap5
 ·exact Ew arq
 ·exact Ew ars
 ·exact Ew aru
 ·exact Ew arv
 ·exact Ew arw
 ·exact Ew arx
 ·exact Ew arz
noncomputable def call (pl:List (FuncId×dY)) (n:Nat):Caller:=Xu Tryz.prog (La Tryz.prog) (UN pl) n
theorem I4 {pl:List (FuncId×dY)} (h:∀p∈pl,dZ Tryz.prog p.1 p.2) (n:Nat):qj Tryz.prog (call pl n):=adR (YL mixed) (abL h) names n
/-! ### The tables -/
theorem ZL:Tryz.prog.globalNamed "unicode/utf8.first" = some 0:=by kernel_rfl
theorem ahC:(Tryz.prog.globals[0]?).map (·.type)=some 340:=by kernel_rfl
theorem aq3:Tryz.prog.underlying 340=some (.array 256 5):=by kernel_rfl
theorem V4:Tryz.prog.underlying 5=some (.int .u8):=by kernel_rfl
theorem aex:Tryz.prog.cellsOf 340=256:=by kernel_rfl
theorem cellsE:Tryz.prog.cellsOf 5=1:=by kernel_rfl
theorem firstData:Go.Pinned.utf8First=Lib.tabData .u8 (Go.Pinned.utf8FirstZ.map Int.ofNat):=by kernel_rfl
theorem ahA:Tryz.prog.globalNamed "unicode/utf8.acceptRanges" = some 1:=by kernel_rfl
theorem ahB:(Tryz.prog.globals[1]?).map (·.type)=some 343:=by kernel_rfl
theorem aer:Tryz.prog.cellsOf 343=2 * 16:=by kernel_rfl
theorem aew:Tryz.prog.cellsOf 341=2:=by kernel_rfl
theorem adT:(Rows.laid_unicode_utf8_acceptRanges:DataW Unit)=Uk .u8 16 LC:=by kernel_rfl
structure Tabs (W:World):Prop where
 first:TabAt W 0 F8
 acc:TabAt W 1 Dq
abbrev aax:List (String×DataW Unit):=[("unicode/utf8.acceptRanges", Rows.laid_unicode_utf8_acceptRanges),("unicode/utf8.first", Rows.laid_unicode_utf8_first)]
theorem tabs {W:World} (h:laidMetH Tryz.prog aax W):Tabs W:=by
 have h':laidMet Tryz.prog aax W:=h;have h2:=laidMet.tail h';rw [show Rows.laid_unicode_utf8_first=Lib.tabData .u8 (Go.Pinned.utf8FirstZ.map Int.ofNat) from firstData] at h2;refine ⟨aql (Lib.tabIs_of_head (rest:=[]) ZL ahC aq3 V4 cellsE aex h2) ZL, ?_⟩;have h3:Lib.VarReads Tryz.prog W "unicode/utf8.acceptRanges" (Uk .u8 16 LC):=by rw [<- adT];exact Lib.laidMet.reads h' (by simp)
 exact aqm h3 ahA ahB Tryz.underlying343 Tryz.underlying341 (λm fl hm=>by
  match m,hm with
  | 0,hm=>simp at hm;subst hm;exact ⟨V4,rfl,cellsE⟩
  | 1,hm=>simp at hm;subst hm;exact ⟨V4,rfl,cellsE⟩
  | m+2,hm=>simp at hm) rfl aew aer
noncomputable def σ0:au:={ h:=(Tr.nil.set 0 (some (.cells F8 0 false false))).set 1 (some (.cells Dq 0 false false)),next:=40,lock:=0 }
theorem arH {id:Nat} {o:bg} (h:σ0.get id=some o):(id=0/\o=.cells F8 0 false false)\/(id=1/\o=.cells Dq 0 false false):=by
 have h':=(Tr.tH (Tr.nil.set 0 (some (bg.cells F8 0 false false))) 1 id (some (bg.cells Dq 0 false false))).symm.trans h;split at h'
 ·next e=>cases h';exact .inr ⟨e,rfl⟩
 ·rw [Tr.tH] at h'
  split at h'
  ·next e=>cases h';exact .inl ⟨e,rfl⟩
  ·rw [Tr.get_nil] at h';cases h'
theorem TJ:Tryz.prog.globals.size=3:=by kernel_rfl
theorem ES:yc σ0 Tryz.prog.globals.size:=by
 refine ⟨by rw [TJ];decide,λid o ho=>?_⟩;rw [TJ];rcases arH ho with ⟨rfl,rfl⟩ | ⟨rfl,rfl⟩
 ·exact ⟨_,rfl,by simp [aH.tabs,dW],by decide⟩
 ·exact ⟨_,rfl,by simp [aH.tabs,dW],by decide⟩
theorem arI:∀id o,σ0.get id=some o->o.own=false:=ES.own
/-- The start: all that stands in the world is frozen. -/
noncomputable abbrev η0 (W:World):Env:=uN Tryz.prog.globals.size σ0 λb=>W.heap[b]?
theorem arG {W:World} (h:Tabs W):SR Tryz.prog (η0 W) σ0 W:=by
 have tb:∀p∈(aH.tabs:List (Nat×List AV)),TabAt W p.1 p.2:=by
  intro p hp;simp only [aH.tabs,dW,dR,Ig,or_false] at hp;rcases hp with rfl | rfl
  ·exact h.first
  ·exact h.acc
 refine Iz ES.1 ?_ (λb o hb=>hb) ?_
 ·intro id o ho
  obtain ⟨c,rfl,hm,hle⟩:=ES.2 id o ho;exact ⟨hle,c,rfl,tb _ hm⟩
 ·intro p hp
  obtain ⟨cs,elem,fr,h1,h2⟩:=tb p hp;exact ⟨cs,elem,fr,h1,h2⟩
def lY:Option (AV×au)->Bool | some (.b true,_)=>true | _=>false
theorem SI {x:Option (AV×au)} (h:lY x=true):∃σ',x=some (.b true,σ'):=by
 unfold lY at h;split at h
 ·exact ⟨_,rfl⟩
 ·cases h
/-- A run of the evaluator that says true: what the call does. -/
theorem asj {pl:List (FuncId×dY)} (hpl:∀p∈pl,dZ Tryz.prog p.1 p.2) {f:FuncId} {fn:Func} {n:Nat} {args:List AV} {vs:List Value} {W:World} (hf:Tryz.prog.funcs[f]? = some fn) (hc:fn.body.isSome=true) (hrun:lY (call pl n f args σ0)=true)
 (hT:Tabs W) (hv:aA (η0 W) args vs):Calls Tryz.prog f ⟨vs⟩ W λe W'=>e=.returned (.bool true)/\Kept W W':=by
 obtain ⟨σ',hs⟩:=SI hrun;obtain ⟨c,hc⟩:=adP.1 hc;refine Calls.mono' (ai4 (I4 hpl n) names hf hc hs (arG hT) hv arI) ?_;rintro e W' ⟨v,rfl,⟨η',hr⟩,hk⟩
 simp only [VR] at hr;exact ⟨by rw [hr],hk⟩
/-- A closed call that the evaluator has run to true: from now on one step. -/
abbrev closed (f:FuncId):FuncId×dY:=(f,Eu)
theorem oQ {pl:List (FuncId×dY)} (hpl:∀p∈pl,dZ Tryz.prog p.1 p.2) {f:FuncId} {n:Nat} (hrun:lY (call pl n f [] σ0)=true):∀p∈closed f::pl,dZ Tryz.prog p.1 p.2:=by
 obtain ⟨σ',hs⟩:=SI hrun;intro p hp;rcases dR.1 hp with rfl | hp
 ·exact akB (I4 hpl n) ES hs
 ·exact hpl p hp
/-- A world for the witness: both tables hold what their initialisers lay. -/
def lay (c:Array Value):Obj->Obj
 | .cells _ t frozen=>.cells c t frozen
 | o=>o
noncomputable def laidWorld (os:Os):World:=
 { World.holding Tryz.prog os ⟨#[], #[],[]⟩ with heap:=((World.holding Tryz.prog os ⟨#[], #[],[]⟩).heap.modify 0 (lay (Go.Pinned.utf8FirstZ.map λx=>Value.int .u8 (Int.ofNat x)).toArray)).modify 1 (lay ((List.range (2 * 16)).map λj=>Value.int .u8 (LC j)).toArray) }
end Go.Proofs.YthgifdbaegpbpaaGreatDoor
