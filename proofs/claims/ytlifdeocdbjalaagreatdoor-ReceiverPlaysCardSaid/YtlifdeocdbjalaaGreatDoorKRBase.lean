/- The evaluator over this program: its prims, its tables, its start. -/
import Derived.Test.YtlifdeocdbjalaaGreatDoorAbsH
import GoSem.PinnedTables
import Derived.Stop.LaidErr
import Derived.Test.YtlifdeocdbjalaaGreatDoorCards
import Derived.Test.YtlifdeocdbjalaaGreatDoorTie
import Derived.ProofKit
import Derived.OpenShut
import Derived.Deep.DeepHandedRow
namespace Go.Proofs.YtlifdeocdbjalaaGreatDoor
open Go.ChangeShapes Go.WideShapes Go.ChangeAt Go.RowKit Go.aN
set_option maxRecDepth 100000
theorem own:ownKnob Tryz.prog.godebug=none:=by kernel_rfl
theorem mixed:Tryz.prog.follows .mixedOrders=true:=by kernel_rfl
theorem akt:(Tryz.prog.funcs.toList.all fun fn=>fn.body.isNone || !(fn.name == "runtime.NumGoroutine"))=true:=by kernel_rfl
theorem names:qG Tryz.prog:=by
 intro f fn c hf hc
 have hm:fn∈Tryz.prog.funcs.toList:=by
  rw [Array.getElem?_eq_some_iff] at hf
  obtain ⟨_,rfl⟩:=hf
  simp
 have:=List.all_eq_true.1 akt fn hm
 simpa [hc] using this
noncomputable def Bc:List AV:=(Go.Pinned.utf8FirstZ.map Int.ofNat).map fun z=>AV.i .u8 z
def aeT:List Nat:=[128,191,160,191,128,159,144,191,128,143]
def GK (k:Nat):Int:=(aeT.getD k 0:Nat)
noncomputable def yC:List AV:=(List.range (2 * 16)).map fun j=>.i .u8 (GK j)
/-- The row's two tables. -/
noncomputable def aF:List (Nat×List AV):=[(1,Bc),(2,yC)]
noncomputable instance:aC:={ nodes:=[],dec:=[],tabs:=aF,I:=fun _ _=>none,val:=fun _=>none,nK:=by intro n nd h;simp at h,tu:=by intro n b h;simp at h }
theorem x158:Ext Tryz.prog 158 Extern.AbiNoEscape.same:=Ext.mk' Tryz.func158 (by kernel_rfl) (by kernel_rfl) (by kernel_rfl) (by kernel_rfl)
theorem x159:Ext Tryz.prog 159 Extern.BytealgCompare.compare:=Ext.mk' Tryz.func159 (by kernel_rfl) (by kernel_rfl) (by kernel_rfl) (by kernel_rfl)
theorem arU:Ext Tryz.prog 280 (fun args=>Extern.ReflectliteValue.unpack (args.getD 0 (.tuple #[]))):=Ext.mk' Tryz.func280 (by kernel_rfl) (by kernel_rfl) (by kernel_rfl) (by kernel_rfl)
theorem arW:Ext Tryz.prog 282 (Extern.ReflectliteValue.method (Extern.ReflectliteValue.valueError "reflectlite.Value.Len" 0) Extern.ReflectliteValue.len):=Ext.mk' Tryz.func282 (by kernel_rfl) (by kernel_rfl) (by kernel_rfl) (by kernel_rfl)
theorem arV:Ext Tryz.prog 281 (Extern.ReflectliteSwapper.swapper "internal/reflectlite" (Extern.ReflectliteValue.valueError "Swapper")):=Ext.mk' Tryz.func281 (by kernel_rfl) (by kernel_rfl) (by kernel_rfl) (by kernel_rfl)
theorem arX:Ext Tryz.prog 288 (Extern.ReflectliteSwapper.swap true):=Ext.mk' Tryz.func288 (by kernel_rfl) (by kernel_rfl) (by kernel_rfl) (by kernel_rfl)
theorem arY:Ext Tryz.prog 289 (Extern.ReflectliteSwapper.swap true):=Ext.mk' Tryz.func289 (by kernel_rfl) (by kernel_rfl) (by kernel_rfl) (by kernel_rfl)
theorem arZ:Ext Tryz.prog 290 (Extern.ReflectliteSwapper.swap true):=Ext.mk' Tryz.func290 (by kernel_rfl) (by kernel_rfl) (by kernel_rfl) (by kernel_rfl)
theorem ar0:Ext Tryz.prog 291 (Extern.ReflectliteSwapper.swap true):=Ext.mk' Tryz.func291 (by kernel_rfl) (by kernel_rfl) (by kernel_rfl) (by kernel_rfl)
theorem ar1:Ext Tryz.prog 292 (Extern.ReflectliteSwapper.swap true):=Ext.mk' Tryz.func292 (by kernel_rfl) (by kernel_rfl) (by kernel_rfl) (by kernel_rfl)
theorem ar2:Ext Tryz.prog 293 (Extern.ReflectliteSwapper.swap true):=Ext.mk' Tryz.func293 (by kernel_rfl) (by kernel_rfl) (by kernel_rfl) (by kernel_rfl)
theorem ar4:Ext Tryz.prog 294 (Extern.ReflectliteSwapper.swap false):=Ext.mk' Tryz.func294 (by kernel_rfl) (by kernel_rfl) (by kernel_rfl) (by kernel_rfl)
theorem aeL:Ext Tryz.prog 109 add64Entry:=Ext.mk' Tryz.func109 (by kernel_rfl) (by kernel_rfl) (by kernel_rfl) (by kernel_rfl)
/-- Which function exchanges two elements: by the elements' kind. -/
def Ry:List (Nat×FuncId):=[(1,286),(2,287),(4,289),(9,294)]
theorem aoS:SC Tryz.prog Ry:=by
 intro p hp
 simp only [Ry,List.mem_cons,List.mem_nil_iff,or_false] at hp
 rcases hp with rfl | rfl | rfl | rfl<;>kernel_rfl
noncomputable def Jj:List (FuncId×dD):=
 [(158,Fh),(159,Qb),(280,Qe Tryz.prog),(282,Qc Tryz.prog),(281,Qd Tryz.prog Ry),
  (288,vZ Tryz.prog),(289,vZ Tryz.prog),(290,vZ Tryz.prog),(291,vZ Tryz.prog),(292,vZ Tryz.prog),(293,vZ Tryz.prog),(294,vZ Tryz.prog),(109,Qa)]
theorem alu:∀p∈Jj,dA Tryz.prog p.1 p.2:=by
 intro p hp
 simp only [Jj,List.mem_cons,List.mem_nil_iff,or_false] at hp
 rcases hp with rfl | rfl | rfl | rfl | rfl | rfl | rfl | rfl | rfl | rfl | rfl | rfl | rfl
 ·exact acO x158
 ·exact akW x159
 ·exact ak0 arU
 ·exact akX arW
 ·exact akZ arV aoS
 ·exact zD arX
 ·exact zD arY
 ·exact zD arZ
 ·exact zD ar0
 ·exact zD ar1
 ·exact zD ar2
 ·exact zD ar4
 ·exact akS aeL
noncomputable def call (pl:List (FuncId×dD)) (n:Nat):Caller:=SG Tryz.prog (Gp Tryz.prog) (QL pl) n
theorem Ec {pl:List (FuncId×dD)} (h:∀p∈pl,dA Tryz.prog p.1 p.2) (n:Nat):mX Tryz.prog (call pl n):=aeQ (aaf mixed) (acR h) names n
/-! ### The tables -/
theorem aa6:Tryz.prog.globalNamed "unicode/utf8.first" = some 1:=by kernel_rfl
theorem ah1:(Tryz.prog.globals[1]?).map (·.type)=some 248:=by kernel_rfl
theorem aqv:Tryz.prog.underlying 248=some (.array 256 5):=by kernel_rfl
theorem RS:Tryz.prog.underlying 5=some (.int .u8):=by kernel_rfl
theorem afC:Tryz.prog.cellsOf 248=256:=by kernel_rfl
theorem cellsE:Tryz.prog.cellsOf 5=1:=by kernel_rfl
theorem firstData:Go.Pinned.utf8First=Lib.tabData .u8 (Go.Pinned.utf8FirstZ.map Int.ofNat):=by kernel_rfl
theorem ahZ:Tryz.prog.globalNamed "unicode/utf8.acceptRanges" = some 2:=by kernel_rfl
theorem ah0:(Tryz.prog.globals[2]?).map (·.type)=some 251:=by kernel_rfl
theorem afx:Tryz.prog.cellsOf 251=2 * 16:=by kernel_rfl
theorem afB:Tryz.prog.cellsOf 249=2:=by kernel_rfl
theorem aeS:(Rows.laid_unicode_utf8_acceptRanges:DataW Unit)=Qh .u8 16 GK:=by kernel_rfl
structure Tabs (W:World):Prop where
 first:TabAt W 1 Bc
 acc:TabAt W 2 yC
abbrev abz:List (String×DataW Unit):=[("unicode/utf8.acceptRanges", Rows.laid_unicode_utf8_acceptRanges),("unicode/utf8.first", Rows.laid_unicode_utf8_first)]
theorem tabs {W:World} (h:laidMetH Tryz.prog abz W):Tabs W:=by
 have h':laidMet Tryz.prog abz W:=h
 have h2:=laidMet.tail h'
 rw [show Rows.laid_unicode_utf8_first=Lib.tabData .u8 (Go.Pinned.utf8FirstZ.map Int.ofNat) from firstData] at h2
 refine ⟨apQ (Lib.tabIs_of_head (rest:=[]) aa6 ah1 aqv RS cellsE afC h2) aa6, ?_⟩
 have h3:Lib.VarReads Tryz.prog W "unicode/utf8.acceptRanges" (Qh .u8 16 GK):=by rw [← aeS];exact Lib.laidMet.reads h' (by simp)
 exact apR h3 ahZ ah0 Tryz.underlying251 Tryz.underlying249 (fun m fl hm=>by
  match m,hm with
  | 0,hm=>simp at hm;subst hm;exact ⟨RS,rfl,cellsE⟩
  | 1,hm=>simp at hm;subst hm;exact ⟨RS,rfl,cellsE⟩
  | m+2,hm=>simp at hm) rfl afB afx
noncomputable def σ0:ah:={ h:=(Tr.nil.set 1 (some (.cells Bc 0 false false))).set 2 (some (.cells yC 0 false false)),next:=40,lock:=0 }
theorem ar9 {id:Nat} {o:aV} (h:σ0.get id=some o):(id=1∧o=.cells Bc 0 false false)∨(id=2∧o=.cells yC 0 false false):=by
 have h':=(Tr.pG (Tr.nil.set 1 (some (aV.cells Bc 0 false false))) 2 id (some (aV.cells yC 0 false false))).symm.trans h
 split at h'
 ·next e=>cases h';exact .inr ⟨e,rfl⟩
 ·rw [Tr.pG] at h'
  split at h'
  ·next e=>cases h';exact .inl ⟨e,rfl⟩
  ·rw [Tr.get_nil] at h';cases h'
theorem PK:Tryz.prog.globals.size=3:=by kernel_rfl
theorem Ag:sN σ0 Tryz.prog.globals.size:=by
 refine ⟨by rw [PK];decide,fun id o ho=>?_⟩
 rw [PK]
 rcases ar9 ho with ⟨rfl,rfl⟩ | ⟨rfl,rfl⟩
 ·exact ⟨_,rfl,by simp [aC.tabs,aF],by decide⟩
 ·exact ⟨_,rfl,by simp [aC.tabs,aF],by decide⟩
theorem asa:∀id o,σ0.get id=some o→o.own=false:=Ag.own
/-- The start: all that stands in the world is frozen. -/
noncomputable abbrev η0 (W:World):Env:=qw Tryz.prog.globals.size σ0 fun b=>W.heap[b]?
theorem ar8 {W:World} (h:Tabs W):SR Tryz.prog (η0 W) σ0 W:=by
 have tb:∀p∈(aC.tabs:List (Nat×List AV)),TabAt W p.1 p.2:=by
  intro p hp
  simp only [aC.tabs,aF,List.mem_cons,List.mem_nil_iff,or_false] at hp
  rcases hp with rfl | rfl
  ·exact h.first
  ·exact h.acc
 refine DJ Ag.1 ?_ (fun b o hb=>hb) ?_
 ·intro id o ho
  obtain ⟨c,rfl,hm,hle⟩:=Ag.2 id o ho
  exact ⟨hle,c,rfl,tb _ hm⟩
 ·intro p hp
  obtain ⟨cs,elem,fr,h1,h2⟩:=tb p hp
  exact ⟨cs,elem,fr,h1,h2⟩
def gX:Option (AV×ah)→Bool | some (.b true,_)=>true | _=>false
theorem O1 {x:Option (AV×ah)} (h:gX x=true):∃σ',x=some (.b true,σ'):=by
 unfold gX at h
 split at h
 ·exact ⟨_,rfl⟩
 ·cases h
/-- A run of the evaluator that says true: what the call does. -/
theorem asP {pl:List (FuncId×dD)} (hpl:∀p∈pl,dA Tryz.prog p.1 p.2) {f:FuncId} {fn:Func} {n:Nat} {args:List AV} {vs:List Value} {W:World} (hf:Tryz.prog.funcs[f]? = some fn) (hc:fn.body.isSome=true) (hrun:gX (call pl n f args σ0)=true)
 (hT:Tabs W) (hv:aj (η0 W) args vs):Calls Tryz.prog f ⟨vs⟩ W fun e W'=>e=.returned (.bool true)∧Kept W W':=by
 obtain ⟨σ',hs⟩:=O1 hrun
 obtain ⟨c,hc⟩:=Option.isSome_iff_exists.1 hc
 refine Calls.mono' (ajm (Ec hpl n) names hf hc hs (ar8 hT) hv asa) ?_
 rintro e W' ⟨v,rfl,⟨η',hr⟩,hk⟩
 simp only [VR] at hr
 exact ⟨by rw [hr],hk⟩
/-- A closed call that the evaluator has run to true: from now on one step. -/
abbrev closed (f:FuncId):FuncId×dD:=(f,zC)
theorem je {pl:List (FuncId×dD)} (hpl:∀p∈pl,dA Tryz.prog p.1 p.2) {f:FuncId} {n:Nat} (hrun:gX (call pl n f [] σ0)=true):∀p∈closed f::pl,dA Tryz.prog p.1 p.2:=by
 obtain ⟨σ',hs⟩:=O1 hrun
 intro p hp
 rcases List.mem_cons.1 hp with rfl | hp
 ·exact akV (Ec hpl n) Ag hs
 ·exact hpl p hp
/-- A world for the witness: both tables hold what their initialisers lay. -/
def lay (c:Array Value):Obj→Obj
 | .cells _ t frozen=>.cells c t frozen
 | o=>o
noncomputable def laidWorld (os:Os):World:=
 { World.holding Tryz.prog os ⟨#[], #[],[]⟩ with heap:=((World.holding Tryz.prog os ⟨#[], #[],[]⟩).heap.modify 1 (lay (Go.Pinned.utf8FirstZ.map fun x=>Value.int .u8 (Int.ofNat x)).toArray)).modify 2 (lay ((List.range (2 * 16)).map fun j=>Value.int .u8 (GK j)).toArray) }
end Go.Proofs.YtlifdeocdbjalaaGreatDoor
