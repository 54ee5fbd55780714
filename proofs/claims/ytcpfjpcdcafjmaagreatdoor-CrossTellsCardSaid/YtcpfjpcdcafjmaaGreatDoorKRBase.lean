/- The evaluator over this program: its prims, its tables, its start. -/
import Derived.Test.YtcpfjpcdcafjmaaGreatDoorAbsH
import GoSem.PinnedTables
import Derived.Stop.LaidErr
import Derived.Test.YtcpfjpcdcafjmaaGreatDoorCards
import Derived.Test.YtcpfjpcdcafjmaaGreatDoorTie
import Derived.ProofKit
import Derived.OpenShut
import Derived.Deep.DeepHandedRow
namespace Go.Proofs.YtcpfjpcdcafjmaaGreatDoor
open Go.ChangeShapes Go.WideShapes Go.ChangeAt Go.RowKit Go.aN
set_option maxRecDepth 100000
theorem own:ownKnob Tryz.prog.godebug=none:=by kernel_rfl
theorem mixed:Tryz.prog.follows .mixedOrders=true:=by kernel_rfl
theorem aiE:(Tryz.prog.funcs.toList.all λfn=>fn.body.isNone || !(fn.name == "runtime.NumGoroutine"))=true:=by kernel_rfl
theorem names:rX Tryz.prog:=by
 intro f fn c hf hc;have hm:fn∈Tryz.prog.funcs.toList:=by
  rw [og] at hf;obtain ⟨_,rfl⟩:=hf;simp
 have:=List.all_eq_true.1 aiE fn hm;simpa [hc] using this
noncomputable def Fe:List AV:=(Go.Pinned.utf8FirstZ.map Int.ofNat).map λz=>AV.i .u8 z
def adF:List Nat:=[128,191,160,191,128,159,144,191,128,143]
def KX (k:Nat):Int:=(adF.getD k 0:Nat)
noncomputable def Cm:List AV:=(List.range (2 * 16)).map λj=>.i .u8 (KX j)
/-- The row's two tables. -/
noncomputable def dZ:List (Nat×List AV):=[(0,Fe),(1,Cm)]
noncomputable instance:aF:={ nodes:=[],dec:=[],tabs:=dZ,I:=λ_ _=>none,val:=λ_=>none,oJ:=by intro n nd h;simp at h,yE:=by intro n b h;simp at h }
theorem adq:Ext Tryz.prog 143 Extern.AbiNoEscape.same:=Ext.mk' Tryz.func143 (by kernel_rfl) (by kernel_rfl) (by kernel_rfl) (by kernel_rfl)
theorem aow:Ext Tryz.prog 228 Extern.BytealgCompare.compare:=Ext.mk' Tryz.func228 (by kernel_rfl) (by kernel_rfl) (by kernel_rfl) (by kernel_rfl)
theorem aox:Ext Tryz.prog 238 (λargs=>Extern.ReflectliteValue.unpack (args.getD 0 (.tuple #[]))):=Ext.mk' Tryz.func238 (by kernel_rfl) (by kernel_rfl) (by kernel_rfl) (by kernel_rfl)
theorem aoz:Ext Tryz.prog 240 (Extern.ReflectliteValue.method (Extern.ReflectliteValue.valueError "reflectlite.Value.Len" 0) Extern.ReflectliteValue.len):=Ext.mk' Tryz.func240 (by kernel_rfl) (by kernel_rfl) (by kernel_rfl) (by kernel_rfl)
theorem aoy:Ext Tryz.prog 239 (Extern.ReflectliteSwapper.swapper "internal/reflectlite" (Extern.ReflectliteValue.valueError "Swapper")):=Ext.mk' Tryz.func239 (by kernel_rfl) (by kernel_rfl) (by kernel_rfl) (by kernel_rfl)
theorem aoA:Ext Tryz.prog 246 (Extern.ReflectliteSwapper.swap true):=Ext.mk' Tryz.func246 (by kernel_rfl) (by kernel_rfl) (by kernel_rfl) (by kernel_rfl)
theorem aoB:Ext Tryz.prog 247 (Extern.ReflectliteSwapper.swap true):=Ext.mk' Tryz.func247 (by kernel_rfl) (by kernel_rfl) (by kernel_rfl) (by kernel_rfl)
theorem aoC:Ext Tryz.prog 248 (Extern.ReflectliteSwapper.swap true):=Ext.mk' Tryz.func248 (by kernel_rfl) (by kernel_rfl) (by kernel_rfl) (by kernel_rfl)
theorem aoD:Ext Tryz.prog 249 (Extern.ReflectliteSwapper.swap true):=Ext.mk' Tryz.func249 (by kernel_rfl) (by kernel_rfl) (by kernel_rfl) (by kernel_rfl)
theorem aoE:Ext Tryz.prog 250 (Extern.ReflectliteSwapper.swap true):=Ext.mk' Tryz.func250 (by kernel_rfl) (by kernel_rfl) (by kernel_rfl) (by kernel_rfl)
theorem aoF:Ext Tryz.prog 251 (Extern.ReflectliteSwapper.swap true):=Ext.mk' Tryz.func251 (by kernel_rfl) (by kernel_rfl) (by kernel_rfl) (by kernel_rfl)
theorem aoG:Ext Tryz.prog 252 (Extern.ReflectliteSwapper.swap false):=Ext.mk' Tryz.func252 (by kernel_rfl) (by kernel_rfl) (by kernel_rfl) (by kernel_rfl)
/-- Which function exchanges two elements: by the elements' kind. -/
def VJ:List (Nat×FuncId):=[(1,244),(2,245),(4,247),(9,252)]
theorem amW:Xi Tryz.prog VJ:=by
 intro p hp;simp only [VJ,dP,Hl,or_false] at hp;rcases hp with rfl | rfl | rfl | rfl<;>kernel_rfl
noncomputable def Oi:List (FuncId×dX):=
 [(143,JA),(228,Ud),(238,Ug Tryz.prog),(240,Ue Tryz.prog),(239,Uf Tryz.prog VJ),
  (246,zW Tryz.prog),(247,zW Tryz.prog),(248,zW Tryz.prog),(249,zW Tryz.prog),(250,zW Tryz.prog),(251,zW Tryz.prog),(252,zW Tryz.prog)]
theorem ajC:∀p∈Oi,dS Tryz.prog p.1 p.2:=by
 intro p hp;simp only [Oi,dP,Hl,or_false] at hp;rcases hp with rfl | rfl | rfl | rfl | rfl | rfl | rfl | rfl | rfl | rfl | rfl | rfl
 ·exact abx adq
 ·exact ai5 aow
 ·exact ai9 aox
 ·exact ai6 aoz
 ·exact ai8 aoy amW
 ·exact DW aoA
 ·exact DW aoB
 ·exact DW aoC
 ·exact DW aoD
 ·exact DW aoE
 ·exact DW aoF
 ·exact DW aoG
noncomputable def call (pl:List (FuncId×dX)) (n:Nat):Caller:=Xm Tryz.prog (KH Tryz.prog) (UL pl) n
theorem Iy {pl:List (FuncId×dX)} (h:∀p∈pl,dS Tryz.prog p.1 p.2) (n:Nat):pO Tryz.prog (call pl n):=adC (Yz mixed) (abE h) names n
/-! ### The tables -/
theorem ZF:Tryz.prog.globalNamed "unicode/utf8.first" = some 0:=by kernel_rfl
theorem agt:(Tryz.prog.globals[0]?).map (·.type)=some 292:=by kernel_rfl
theorem anZ:Tryz.prog.underlying 292=some (.array 256 5):=by kernel_rfl
theorem V3:Tryz.prog.underlying 5=some (.int .u8):=by kernel_rfl
theorem aed:Tryz.prog.cellsOf 292=256:=by kernel_rfl
theorem cellsE:Tryz.prog.cellsOf 5=1:=by kernel_rfl
theorem firstData:Go.Pinned.utf8First=Lib.tabData .u8 (Go.Pinned.utf8FirstZ.map Int.ofNat):=by kernel_rfl
theorem agr:Tryz.prog.globalNamed "unicode/utf8.acceptRanges" = some 1:=by kernel_rfl
theorem ags:(Tryz.prog.globals[1]?).map (·.type)=some 295:=by kernel_rfl
theorem ad8:Tryz.prog.cellsOf 295=2 * 16:=by kernel_rfl
theorem aec:Tryz.prog.cellsOf 293=2:=by kernel_rfl
theorem adE:(Rows.laid_unicode_utf8_acceptRanges:DataW Unit)=Uh .u8 16 KX:=by kernel_rfl
structure Tabs (W:World):Prop where
 first:TabAt W 0 Fe
 acc:TabAt W 1 Cm
abbrev aat:List (String×DataW Unit):=[("unicode/utf8.acceptRanges", Rows.laid_unicode_utf8_acceptRanges),("unicode/utf8.first", Rows.laid_unicode_utf8_first)]
theorem tabs {W:World} (h:laidMetH Tryz.prog aat W):Tabs W:=by
 have h':laidMet Tryz.prog aat W:=h;have h2:=laidMet.tail h';rw [show Rows.laid_unicode_utf8_first=Lib.tabData .u8 (Go.Pinned.utf8FirstZ.map Int.ofNat) from firstData] at h2;refine ⟨anf (Lib.tabIs_of_head (rest:=[]) ZF agt anZ V3 cellsE aed h2) ZF, ?_⟩;have h3:Lib.VarReads Tryz.prog W "unicode/utf8.acceptRanges" (Uh .u8 16 KX):=by rw [<- adE];exact Lib.laidMet.reads h' (by simp)
 exact ang h3 agr ags Tryz.underlying295 Tryz.underlying293 (λm fl hm=>by
  match m,hm with
  | 0,hm=>simp at hm;subst hm;exact ⟨V3,rfl,cellsE⟩
  | 1,hm=>simp at hm;subst hm;exact ⟨V3,rfl,cellsE⟩
  | m+2,hm=>simp at hm) rfl aec ad8
noncomputable def σ0:aj:={ h:=(Tr.nil.set 0 (some (.cells Fe 0 false false))).set 1 (some (.cells Cm 0 false false)),next:=40,lock:=0 }
theorem aoP {id:Nat} {o:bg} (h:σ0.get id=some o):(id=0/\o=.cells Fe 0 false false)\/(id=1/\o=.cells Cm 0 false false):=by
 have h':=(Tr.sU (Tr.nil.set 0 (some (bg.cells Fe 0 false false))) 1 id (some (bg.cells Cm 0 false false))).symm.trans h;split at h'
 ·next e=>cases h';exact .inr ⟨e,rfl⟩
 ·rw [Tr.sU] at h'
  split at h'
  ·next e=>cases h';exact .inl ⟨e,rfl⟩
  ·rw [Tr.get_nil] at h';cases h'
theorem TG:Tryz.prog.globals.size=3:=by kernel_rfl
theorem Em:yh σ0 Tryz.prog.globals.size:=by
 refine ⟨by rw [TG];decide,λid o ho=>?_⟩;rw [TG];rcases aoP ho with ⟨rfl,rfl⟩ | ⟨rfl,rfl⟩
 ·exact ⟨_,rfl,by simp [aF.tabs,dZ],by decide⟩
 ·exact ⟨_,rfl,by simp [aF.tabs,dZ],by decide⟩
theorem aoQ:∀id o,σ0.get id=some o->o.own=false:=Em.own
/-- The start: all that stands in the world is frozen. -/
noncomputable abbrev η0 (W:World):Env:=uF Tryz.prog.globals.size σ0 λb=>W.heap[b]?
theorem aoO {W:World} (h:Tabs W):SR Tryz.prog (η0 W) σ0 W:=by
 have tb:∀p∈(aF.tabs:List (Nat×List AV)),TabAt W p.1 p.2:=by
  intro p hp;simp only [aF.tabs,dZ,dP,Hl,or_false] at hp;rcases hp with rfl | rfl
  ·exact h.first
  ·exact h.acc
 refine H9 Em.1 ?_ (λb o hb=>hb) ?_
 ·intro id o ho
  obtain ⟨c,rfl,hm,hle⟩:=Em.2 id o ho;exact ⟨hle,c,rfl,tb _ hm⟩
 ·intro p hp
  obtain ⟨cs,elem,fr,h1,h2⟩:=tb p hp;exact ⟨cs,elem,fr,h1,h2⟩
def lF:Option (AV×aj)->Bool | some (.b true,_)=>true | _=>false
theorem SK {x:Option (AV×aj)} (h:lF x=true):∃σ',x=some (.b true,σ'):=by
 unfold lF at h;split at h
 ·exact ⟨_,rfl⟩
 ·cases h
/-- A run of the evaluator that says true: what the call does. -/
theorem apq {pl:List (FuncId×dX)} (hpl:∀p∈pl,dS Tryz.prog p.1 p.2) {f:FuncId} {fn:Func} {n:Nat} {args:List AV} {vs:List Value} {W:World} (hf:Tryz.prog.funcs[f]? = some fn) (hc:fn.body.isSome=true) (hrun:lF (call pl n f args σ0)=true)
 (hT:Tabs W) (hv:au (η0 W) args vs):Calls Tryz.prog f ⟨vs⟩ W λe W'=>e=.returned (.bool true)/\Kept W W':=by
 obtain ⟨σ',hs⟩:=SK hrun;obtain ⟨c,hc⟩:=adA.1 hc;refine Calls.mono' (ahQ (Iy hpl n) names hf hc hs (aoO hT) hv aoQ) ?_;rintro e W' ⟨v,rfl,⟨η',hr⟩,hk⟩
 simp only [VR] at hr;exact ⟨by rw [hr],hk⟩
/-- A closed call that the evaluator has run to true: from now on one step. -/
abbrev closed (f:FuncId):FuncId×dX:=(f,DV)
theorem nM {pl:List (FuncId×dX)} (hpl:∀p∈pl,dS Tryz.prog p.1 p.2) {f:FuncId} {n:Nat} (hrun:lF (call pl n f [] σ0)=true):∀p∈closed f::pl,dS Tryz.prog p.1 p.2:=by
 obtain ⟨σ',hs⟩:=SK hrun;intro p hp;rcases dP.1 hp with rfl | hp
 ·exact ai4 (Iy hpl n) Em hs
 ·exact hpl p hp
/-- A world for the witness: both tables hold what their initialisers lay. -/
def lay (c:Array Value):Obj->Obj
 | .cells _ t frozen=>.cells c t frozen
 | o=>o
noncomputable def laidWorld (os:Os):World:=
 { World.holding Tryz.prog os ⟨#[], #[],[]⟩ with heap:=((World.holding Tryz.prog os ⟨#[], #[],[]⟩).heap.modify 0 (lay (Go.Pinned.utf8FirstZ.map λx=>Value.int .u8 (Int.ofNat x)).toArray)).modify 1 (lay ((List.range (2 * 16)).map λj=>Value.int .u8 (KX j)).toArray) }
end Go.Proofs.YtcpfjpcdcafjmaaGreatDoor
