/- The evaluator over this program: its prims, its tables, its start. -/
import Derived.Test.YtaggjpipnjmleaaGreatDoorAbsH
import GoSem.PinnedTables
import Derived.Stop.LaidErr
import Derived.Test.YtaggjpipnjmleaaGreatDoorCards
import Derived.Test.YtaggjpipnjmleaaGreatDoorTie
import Derived.ProofKit
import Derived.OpenShut
import Derived.Deep.DeepHandedRow
namespace Go.Proofs.YtaggjpipnjmleaaGreatDoor
open Go.ChangeShapes Go.WideShapes Go.ChangeAt Go.RowKit Go.aJ
set_option maxRecDepth 100000
theorem own:ownKnob Tryz.prog.godebug=none:=by kernel_rfl
theorem mixed:Tryz.prog.follows .mixedOrders=true:=by kernel_rfl
theorem amw:(Tryz.prog.funcs.toList.all λfn=>fn.body.isNone || !(fn.name == "runtime.NumGoroutine"))=true:=by kernel_rfl
theorem names:su Tryz.prog:=by
 intro f fn c hf hc;have hm:fn∈Tryz.prog.funcs.toList:=by
  rw [nZ] at hf;obtain ⟨_,rfl⟩:=hf;simp
 have:=List.all_eq_true.1 amw fn hm;simpa [hc] using this
noncomputable def Gt:List AV:=(Go.Pinned.utf8FirstZ.map Int.ofNat).map λz=>AV.i .u8 z
def afx:List Nat:=[128,191,160,191,128,159,144,191,128,143]
def Nc (k:Nat):Int:=(afx.getD k 0:Nat)
noncomputable def Dq:List AV:=(List.range (2 * 16)).map λj=>.i .u8 (Nc j)
/-- The row's two tables. -/
noncomputable def dQ:List (Nat×List AV):=[(0,Gt),(1,Dq)]
noncomputable instance:aH:={ nodes:=[],dec:=[],tabs:=dQ,I:=λ_ _=>none,val:=λ_=>none,oD:=by intro n nd h;simp at h,yM:=by intro n b h;simp at h }
theorem afd:Ext Tryz.prog 145 Extern.AbiNoEscape.same:=Ext.mk' Tryz.func145 (by kernel_rfl) (by kernel_rfl) (by kernel_rfl) (by kernel_rfl)
theorem asx:Ext Tryz.prog 224 Extern.BytealgCompare.compare:=Ext.mk' Tryz.func224 (by kernel_rfl) (by kernel_rfl) (by kernel_rfl) (by kernel_rfl)
theorem asy:Ext Tryz.prog 234 (λargs=>Extern.ReflectliteValue.unpack (args.getD 0 (.tuple #[]))):=Ext.mk' Tryz.func234 (by kernel_rfl) (by kernel_rfl) (by kernel_rfl) (by kernel_rfl)
theorem asA:Ext Tryz.prog 236 (Extern.ReflectliteValue.method (Extern.ReflectliteValue.valueError "reflectlite.Value.Len" 0) Extern.ReflectliteValue.len):=Ext.mk' Tryz.func236 (by kernel_rfl) (by kernel_rfl) (by kernel_rfl) (by kernel_rfl)
theorem asz:Ext Tryz.prog 235 (Extern.ReflectliteSwapper.swapper "internal/reflectlite" (Extern.ReflectliteValue.valueError "Swapper")):=Ext.mk' Tryz.func235 (by kernel_rfl) (by kernel_rfl) (by kernel_rfl) (by kernel_rfl)
theorem asB:Ext Tryz.prog 242 (Extern.ReflectliteSwapper.swap true):=Ext.mk' Tryz.func242 (by kernel_rfl) (by kernel_rfl) (by kernel_rfl) (by kernel_rfl)
theorem asC:Ext Tryz.prog 243 (Extern.ReflectliteSwapper.swap true):=Ext.mk' Tryz.func243 (by kernel_rfl) (by kernel_rfl) (by kernel_rfl) (by kernel_rfl)
theorem asD:Ext Tryz.prog 244 (Extern.ReflectliteSwapper.swap true):=Ext.mk' Tryz.func244 (by kernel_rfl) (by kernel_rfl) (by kernel_rfl) (by kernel_rfl)
theorem asE:Ext Tryz.prog 245 (Extern.ReflectliteSwapper.swap true):=Ext.mk' Tryz.func245 (by kernel_rfl) (by kernel_rfl) (by kernel_rfl) (by kernel_rfl)
theorem asF:Ext Tryz.prog 246 (Extern.ReflectliteSwapper.swap true):=Ext.mk' Tryz.func246 (by kernel_rfl) (by kernel_rfl) (by kernel_rfl) (by kernel_rfl)
theorem asG:Ext Tryz.prog 247 (Extern.ReflectliteSwapper.swap true):=Ext.mk' Tryz.func247 (by kernel_rfl) (by kernel_rfl) (by kernel_rfl) (by kernel_rfl)
theorem asH:Ext Tryz.prog 248 (Extern.ReflectliteSwapper.swap false):=Ext.mk' Tryz.func248 (by kernel_rfl) (by kernel_rfl) (by kernel_rfl) (by kernel_rfl)
/-- Which function exchanges two elements: by the elements' kind. -/
def Xy:List (Nat×FuncId):=[(1,240),(2,241),(4,243),(9,248)]
theorem arq:YT Tryz.prog Xy:=by
 intro p hp;simp only [Xy,dO,Fp,or_false] at hp;rcases hp with rfl | rfl | rfl | rfl<;>kernel_rfl
noncomputable def Qa:List (FuncId×fA):=
 [(145,KP),(224,VY),(234,V5 Tryz.prog),(236,VZ Tryz.prog),(235,V4 Tryz.prog Xy),
  (242,Aj Tryz.prog),(243,Aj Tryz.prog),(244,Aj Tryz.prog),(245,Aj Tryz.prog),(246,Aj Tryz.prog),(247,Aj Tryz.prog),(248,Aj Tryz.prog)]
theorem an2:∀p∈Qa,eH Tryz.prog p.1 p.2:=by
 intro p hp;simp only [Qa,dO,Fp,or_false] at hp;rcases hp with rfl | rfl | rfl | rfl | rfl | rfl | rfl | rfl | rfl | rfl | rfl | rfl
 ·exact acZ afd
 ·exact am4 asx
 ·exact am8 asy
 ·exact am5 asA
 ·exact am7 asz arq
 ·exact EF asB
 ·exact EF asC
 ·exact EF asD
 ·exact EF asE
 ·exact EF asF
 ·exact EF asG
 ·exact EF asH
noncomputable def call (pl:List (FuncId×fA)) (n:Nat):Caller:=YX Tryz.prog (ML Tryz.prog) (WO pl) n
theorem JB {pl:List (FuncId×fA)} (h:∀p∈pl,eH Tryz.prog p.1 p.2) (n:Nat):pI Tryz.prog (call pl n):=afu (aao mixed) (adf h) names n
/-! ### The tables -/
theorem aaY:Tryz.prog.globalNamed "unicode/utf8.first" = some 0:=by kernel_rfl
theorem akp:(Tryz.prog.globals[0]?).map (·.type)=some 275:=by kernel_rfl
theorem ar7:Tryz.prog.underlying 275=some (.array 256 5):=by kernel_rfl
theorem XM:Tryz.prog.underlying 5=some (.int .u8):=by kernel_rfl
theorem af8:Tryz.prog.cellsOf 275=256:=by kernel_rfl
theorem cellsE:Tryz.prog.cellsOf 5=1:=by kernel_rfl
theorem firstData:Go.Pinned.utf8First=Lib.tabData .u8 (Go.Pinned.utf8FirstZ.map Int.ofNat):=by kernel_rfl
theorem akn:Tryz.prog.globalNamed "unicode/utf8.acceptRanges" = some 1:=by kernel_rfl
theorem ako:(Tryz.prog.globals[1]?).map (·.type)=some 278:=by kernel_rfl
theorem af4:Tryz.prog.cellsOf 278=2 * 16:=by kernel_rfl
theorem af7:Tryz.prog.cellsOf 276=2:=by kernel_rfl
theorem afw:(Rows.laid_unicode_utf8_acceptRanges:DataW Unit)=V6 .u8 16 Nc:=by kernel_rfl
structure Tabs (W:World):Prop where
 first:TabAt W 0 Gt
 acc:TabAt W 1 Dq
abbrev abI:List (String×DataW Unit):=[("unicode/utf8.acceptRanges", Rows.laid_unicode_utf8_acceptRanges),("unicode/utf8.first", Rows.laid_unicode_utf8_first)]
theorem tabs {W:World} (h:laidMetH Tryz.prog abI W):Tabs W:=by
 have h':laidMet Tryz.prog abI W:=h;have h2:=laidMet.tail h';rw [show Rows.laid_unicode_utf8_first=Lib.tabData .u8 (Go.Pinned.utf8FirstZ.map Int.ofNat) from firstData] at h2;refine ⟨arK (Lib.tabIs_of_head (rest:=[]) aaY akp ar7 XM cellsE af8 h2) aaY, ?_⟩;have h3:Lib.VarReads Tryz.prog W "unicode/utf8.acceptRanges" (V6 .u8 16 Nc):=by rw [<- afw];exact Lib.laidMet.reads h' (by simp)
 exact arL h3 akn ako Tryz.underlying278 Tryz.underlying276 (λm fl hm=>by
  match m,hm with
  | 0,hm=>simp at hm;subst hm;exact ⟨XM,rfl,cellsE⟩
  | 1,hm=>simp at hm;subst hm;exact ⟨XM,rfl,cellsE⟩
  | m+2,hm=>simp at hm) rfl af7 af4
noncomputable def σ0:ay:={ h:=(Tr.nil.set 0 (some (.cells Gt 0 false false))).set 1 (some (.cells Dq 0 false false)),next:=40,lock:=0 }
theorem asQ {id:Nat} {o:bn} (h:σ0.get id=some o):(id=0/\o=.cells Gt 0 false false)\/(id=1/\o=.cells Dq 0 false false):=by
 have h':=(Tr.tJ (Tr.nil.set 0 (some (bn.cells Gt 0 false false))) 1 id (some (bn.cells Dq 0 false false))).symm.trans h;split at h'
 ·next e=>cases h';exact .inr ⟨e,rfl⟩
 ·rw [Tr.tJ] at h'
  split at h'
  ·next e=>cases h';exact .inl ⟨e,rfl⟩
  ·rw [Tr.get_nil] at h';cases h'
theorem Vz:Tryz.prog.globals.size=3:=by kernel_rfl
theorem E5:yB σ0 Tryz.prog.globals.size:=by
 refine ⟨by rw [Vz];decide,λid o ho=>?_⟩;rw [Vz];rcases asQ ho with ⟨rfl,rfl⟩ | ⟨rfl,rfl⟩
 ·exact ⟨_,rfl,by simp [aH.tabs,dQ],by decide⟩
 ·exact ⟨_,rfl,by simp [aH.tabs,dQ],by decide⟩
theorem asR:∀id o,σ0.get id=some o->o.own=false:=E5.own
/-- The start: all that stands in the world is frozen. -/
noncomputable abbrev η0 (W:World):Env:=uQ Tryz.prog.globals.size σ0 λb=>W.heap[b]?
theorem asP {W:World} (h:Tabs W):SR Tryz.prog (η0 W) σ0 W:=by
 have tb:∀p∈(aH.tabs:List (Nat×List AV)),TabAt W p.1 p.2:=by
  intro p hp;simp only [aH.tabs,dQ,dO,Fp,or_false] at hp;rcases hp with rfl | rfl
  ·exact h.first
  ·exact h.acc
 refine Jl E5.1 ?_ (λb o hb=>hb) ?_
 ·intro id o ho
  obtain ⟨c,rfl,hm,hle⟩:=E5.2 id o ho;exact ⟨hle,c,rfl,tb _ hm⟩
 ·intro p hp
  obtain ⟨cs,elem,fr,h1,h2⟩:=tb p hp;exact ⟨cs,elem,fr,h1,h2⟩
def kY:Option (AV×ay)->Bool | some (.b true,_)=>true | _=>false
theorem U3 {x:Option (AV×ay)} (h:kY x=true):∃σ',x=some (.b true,σ'):=by
 unfold kY at h;split at h
 ·exact ⟨_,rfl⟩
 ·cases h
/-- A run of the evaluator that says true: what the call does. -/
theorem atu {pl:List (FuncId×fA)} (hpl:∀p∈pl,eH Tryz.prog p.1 p.2) {f:FuncId} {fn:Func} {n:Nat} {args:List AV} {vs:List Value} {W:World} (hf:Tryz.prog.funcs[f]? = some fn) (hc:fn.body.isSome=true) (hrun:kY (call pl n f args σ0)=true)
 (hT:Tabs W) (hv:aA (η0 W) args vs):Calls Tryz.prog f ⟨vs⟩ W λe W'=>e=.returned (.bool true)/\Kept W W':=by
 obtain ⟨σ',hs⟩:=U3 hrun;obtain ⟨c,hc⟩:=afp.1 hc;refine Calls.mono' (alB (JB hpl n) names hf hc hs (asP hT) hv asR) ?_;rintro e W' ⟨v,rfl,⟨η',hr⟩,hk⟩
 simp only [VR] at hr;exact ⟨by rw [hr],hk⟩
/-- A closed call that the evaluator has run to true: from now on one step. -/
abbrev closed (f:FuncId):FuncId×fA:=(f,ED)
theorem nG {pl:List (FuncId×fA)} (hpl:∀p∈pl,eH Tryz.prog p.1 p.2) {f:FuncId} {n:Nat} (hrun:kY (call pl n f [] σ0)=true):∀p∈closed f::pl,eH Tryz.prog p.1 p.2:=by
 obtain ⟨σ',hs⟩:=U3 hrun;intro p hp;rcases dO.1 hp with rfl | hp
 ·exact am3 (JB hpl n) E5 hs
 ·exact hpl p hp
/-- A world for the witness: both tables hold what their initialisers lay. -/
def lay (c:Array Value):Obj->Obj
 | .cells _ t frozen=>.cells c t frozen
 | o=>o
noncomputable def laidWorld (os:Os):World:=
 { World.holding Tryz.prog os ⟨#[], #[],[]⟩ with heap:=((World.holding Tryz.prog os ⟨#[], #[],[]⟩).heap.modify 0 (lay (Go.Pinned.utf8FirstZ.map λx=>Value.int .u8 (Int.ofNat x)).toArray)).modify 1 (lay ((List.range (2 * 16)).map λj=>Value.int .u8 (Nc j)).toArray) }
end Go.Proofs.YtaggjpipnjmleaaGreatDoor
