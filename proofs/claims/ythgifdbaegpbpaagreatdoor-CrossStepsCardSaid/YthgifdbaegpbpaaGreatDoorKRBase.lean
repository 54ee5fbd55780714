/- The evaluator over this program: its prims, its tables, its start. -/
import Derived.Test.YthgifdbaegpbpaaGreatDoorAbsH
import GoSem.PinnedTables
import Derived.Stop.LaidErr
import Derived.Test.YthgifdbaegpbpaaGreatDoorCards
import Derived.Test.YthgifdbaegpbpaaGreatDoorTie
import Derived.ProofKit
import Derived.OpenShut
import Derived.Deep.DeepHandedRow
namespace Go.Proofs.YthgifdbaegpbpaaGreatDoor
open Go.ChangeShapes Go.WideShapes Go.ChangeAt Go.RowKit Go.aN
set_option maxRecDepth 100000
theorem own:ownKnob Tryz.prog.godebug=none:=by kernel_rfl
theorem mixed:Tryz.prog.follows .mixedOrders=true:=by kernel_rfl
theorem ale:(Tryz.prog.funcs.toList.all λfn=>fn.body.isNone || !(fn.name == "runtime.NumGoroutine"))=true:=by kernel_rfl
theorem names:uh Tryz.prog:=by
 intro f fn c hf hc;have hm:fn∈Tryz.prog.funcs.toList:=by
  rw [oQ] at hf;obtain ⟨_,rfl⟩:=hf;simp
 have:=List.all_eq_true.1 ale fn hm;simpa [hc] using this
noncomputable def G8:List AV:=(Go.Pinned.utf8FirstZ.map Int.ofNat).map λz=>AV.i .u8 z
def aeW:List Nat:=[128,191,160,191,128,159,144,191,128,143]
def Nh (k:Nat):Int:=(aeW.getD k 0:Nat)
noncomputable def Dz:List AV:=(List.range (2 * 16)).map λj=>.i .u8 (Nh j)
/-- The row's two tables. -/
noncomputable def fG:List (Nat×List AV):=[(0,G8),(1,Dz)]
noncomputable instance:aG:={ nodes:=[],dec:=[],tabs:=fG,I:=λ_ _=>none,val:=λ_=>none,pK:=by intro n nd h;simp at h,yN:=by intro n b h;simp at h }
theorem aeA:Ext Tryz.prog 210 Extern.AbiNoEscape.same:=Ext.mk' Tryz.func210 (by kernel_rfl) (by kernel_rfl) (by kernel_rfl) (by kernel_rfl)
theorem arE:Ext Tryz.prog 269 Extern.BytealgCompare.compare:=Ext.mk' Tryz.func269 (by kernel_rfl) (by kernel_rfl) (by kernel_rfl) (by kernel_rfl)
theorem arF:Ext Tryz.prog 279 (λargs=>Extern.ReflectliteValue.unpack (args.getD 0 (.tuple #[]))):=Ext.mk' Tryz.func279 (by kernel_rfl) (by kernel_rfl) (by kernel_rfl) (by kernel_rfl)
theorem arH:Ext Tryz.prog 281 (Extern.ReflectliteValue.method (Extern.ReflectliteValue.valueError "reflectlite.Value.Len" 0) Extern.ReflectliteValue.len):=Ext.mk' Tryz.func281 (by kernel_rfl) (by kernel_rfl) (by kernel_rfl) (by kernel_rfl)
theorem arG:Ext Tryz.prog 280 (Extern.ReflectliteSwapper.swapper "internal/reflectlite" (Extern.ReflectliteValue.valueError "Swapper")):=Ext.mk' Tryz.func280 (by kernel_rfl) (by kernel_rfl) (by kernel_rfl) (by kernel_rfl)
theorem arI:Ext Tryz.prog 287 (Extern.ReflectliteSwapper.swap true):=Ext.mk' Tryz.func287 (by kernel_rfl) (by kernel_rfl) (by kernel_rfl) (by kernel_rfl)
theorem arJ:Ext Tryz.prog 288 (Extern.ReflectliteSwapper.swap true):=Ext.mk' Tryz.func288 (by kernel_rfl) (by kernel_rfl) (by kernel_rfl) (by kernel_rfl)
theorem arK:Ext Tryz.prog 289 (Extern.ReflectliteSwapper.swap true):=Ext.mk' Tryz.func289 (by kernel_rfl) (by kernel_rfl) (by kernel_rfl) (by kernel_rfl)
theorem arL:Ext Tryz.prog 290 (Extern.ReflectliteSwapper.swap true):=Ext.mk' Tryz.func290 (by kernel_rfl) (by kernel_rfl) (by kernel_rfl) (by kernel_rfl)
theorem arM:Ext Tryz.prog 291 (Extern.ReflectliteSwapper.swap true):=Ext.mk' Tryz.func291 (by kernel_rfl) (by kernel_rfl) (by kernel_rfl) (by kernel_rfl)
theorem arN:Ext Tryz.prog 292 (Extern.ReflectliteSwapper.swap true):=Ext.mk' Tryz.func292 (by kernel_rfl) (by kernel_rfl) (by kernel_rfl) (by kernel_rfl)
theorem arO:Ext Tryz.prog 293 (Extern.ReflectliteSwapper.swap false):=Ext.mk' Tryz.func293 (by kernel_rfl) (by kernel_rfl) (by kernel_rfl) (by kernel_rfl)
/-- Which function exchanges two elements: by the elements' kind. -/
def Xl:List (Nat×FuncId):=[(1,285),(2,286),(4,288),(9,293)]
theorem aqf:Yw Tryz.prog Xl:=by
 intro p hp;simp only [Xl,bZ,Dq,or_false] at hp;rcases hp with rfl | rfl | rfl | rfl<;>kernel_rfl
noncomputable def P9:List (FuncId×eU):=
 [(210,KT),(269,VL),(279,VQ Tryz.prog),(281,VN Tryz.prog),(280,VP Tryz.prog Xl),
  (287,Ap Tryz.prog),(288,Ap Tryz.prog),(289,Ap Tryz.prog),(290,Ap Tryz.prog),(291,Ap Tryz.prog),(292,Ap Tryz.prog),(293,Ap Tryz.prog)]
theorem amq:∀p∈P9,dY Tryz.prog p.1 p.2:=by
 intro p hp;simp only [P9,bZ,Dq,or_false] at hp;rcases hp with rfl | rfl | rfl | rfl | rfl | rfl | rfl | rfl | rfl | rfl | rfl | rfl
 ·exact acM aeA
 ·exact alL arE
 ·exact alP arF
 ·exact alM arH
 ·exact alO arG aqf
 ·exact EH arI
 ·exact EH arJ
 ·exact EH arK
 ·exact EH arL
 ·exact EH arM
 ·exact EH arN
 ·exact EH arO
noncomputable def call (pl:List (FuncId×eU)) (n:Nat):Caller:=YB Tryz.prog (MN Tryz.prog) (WB pl) n
theorem JH {pl:List (FuncId×eU)} (h:∀p∈pl,dY Tryz.prog p.1 p.2) (n:Nat):qF Tryz.prog (call pl n):=aeT (ZP mixed) (acX h) names n
/-! ### The tables -/
theorem aaV:Tryz.prog.globalNamed "unicode/utf8.first" = some 0:=by kernel_rfl
theorem ah1:(Tryz.prog.globals[0]?).map (·.type)=some 340:=by kernel_rfl
theorem aqQ:Tryz.prog.underlying 340=some (.array 256 5):=by kernel_rfl
theorem XA:Tryz.prog.underlying 5=some (.int .u8):=by kernel_rfl
theorem afw:Tryz.prog.cellsOf 340=256:=by kernel_rfl
theorem cellsE:Tryz.prog.cellsOf 5=1:=by kernel_rfl
theorem firstData:Go.Pinned.utf8First=Lib.tabData .u8 (Go.Pinned.utf8FirstZ.map Int.ofNat):=by kernel_rfl
theorem ahZ:Tryz.prog.globalNamed "unicode/utf8.acceptRanges" = some 1:=by kernel_rfl
theorem ah0:(Tryz.prog.globals[1]?).map (·.type)=some 343:=by kernel_rfl
theorem afs:Tryz.prog.cellsOf 343=2 * 16:=by kernel_rfl
theorem afv:Tryz.prog.cellsOf 341=2:=by kernel_rfl
theorem aeV:(Rows.laid_unicode_utf8_acceptRanges:DataW Unit)=VT .u8 16 Nh:=by kernel_rfl
structure Tabs (W:World):Prop where
 first:TabAt W 0 G8
 acc:TabAt W 1 Dz
abbrev abC:List (String×DataW Unit):=[("unicode/utf8.acceptRanges", Rows.laid_unicode_utf8_acceptRanges),("unicode/utf8.first", Rows.laid_unicode_utf8_first)]
theorem tabs {W:World} (h:laidMetH Tryz.prog abC W):Tabs W:=by
 have h':laidMet Tryz.prog abC W:=h;have h2:=laidMet.tail h';rw [show Rows.laid_unicode_utf8_first=Lib.tabData .u8 (Go.Pinned.utf8FirstZ.map Int.ofNat) from firstData] at h2;refine ⟨aqx (Lib.tabIs_of_head (rest:=[]) aaV ah1 aqQ XA cellsE afw h2) aaV, ?_⟩;have h3:Lib.VarReads Tryz.prog W "unicode/utf8.acceptRanges" (VT .u8 16 Nh):=by rw [<- aeV];exact Lib.laidMet.reads h' (by simp)
 exact aqy h3 ahZ ah0 Tryz.underlying343 Tryz.underlying341 (λm fl hm=>by
  match m,hm with
  | 0,hm=>simp at hm;subst hm;exact ⟨XA,rfl,cellsE⟩
  | 1,hm=>simp at hm;subst hm;exact ⟨XA,rfl,cellsE⟩
  | m+2,hm=>simp at hm) rfl afv afs
noncomputable def σ0:ak:={ h:=(Tr.nil.set 0 (some (.cells G8 0 false false))).set 1 (some (.cells Dz 0 false false)),next:=40,lock:=0 }
theorem arZ {id:Nat} {o:bf} (h:σ0.get id=some o):(id=0/\o=.cells G8 0 false false)\/(id=1/\o=.cells Dz 0 false false):=by
 have h':=(Tr.uH (Tr.nil.set 0 (some (bf.cells G8 0 false false))) 1 id (some (bf.cells Dz 0 false false))).symm.trans h;split at h'
 ·next e=>cases h';exact .inr ⟨e,rfl⟩
 ·rw [Tr.uH] at h'
  split at h'
  ·next e=>cases h';exact .inl ⟨e,rfl⟩
  ·rw [Tr.get_nil] at h';cases h'
theorem Vq:Tryz.prog.globals.size=3:=by kernel_rfl
theorem FU:yC σ0 Tryz.prog.globals.size:=by
 refine ⟨by rw [Vq];decide,λid o ho=>?_⟩;rw [Vq];rcases arZ ho with ⟨rfl,rfl⟩ | ⟨rfl,rfl⟩
 ·exact ⟨_,rfl,by simp [aG.tabs,fG],by decide⟩
 ·exact ⟨_,rfl,by simp [aG.tabs,fG],by decide⟩
theorem ar0:∀id o,σ0.get id=some o->o.own=false:=FU.own
/-- The start: all that stands in the world is frozen. -/
noncomputable abbrev η0 (W:World):Env:=vN Tryz.prog.globals.size σ0 λb=>W.heap[b]?
theorem arY {W:World} (h:Tabs W):SR Tryz.prog (η0 W) σ0 W:=by
 have tb:∀p∈(aG.tabs:List (Nat×List AV)),TabAt W p.1 p.2:=by
  intro p hp;simp only [aG.tabs,fG,bZ,Dq,or_false] at hp;rcases hp with rfl | rfl
  ·exact h.first
  ·exact h.acc
 refine Jr FU.1 ?_ (λb o hb=>hb) ?_
 ·intro id o ho
  obtain ⟨c,rfl,hm,hle⟩:=FU.2 id o ho;exact ⟨hle,c,rfl,tb _ hm⟩
 ·intro p hp
  obtain ⟨cs,elem,fr,h1,h2⟩:=tb p hp;exact ⟨cs,elem,fr,h1,h2⟩
def kW:Option (AV×ak)->Bool | some (.b true,_)=>true | _=>false
theorem UM {x:Option (AV×ak)} (h:kW x=true):∃σ',x=some (.b true,σ'):=by
 unfold kW at h;split at h
 ·exact ⟨_,rfl⟩
 ·cases h
/-- A run of the evaluator that says true: what the call does. -/
theorem asH {pl:List (FuncId×eU)} (hpl:∀p∈pl,dY Tryz.prog p.1 p.2) {f:FuncId} {fn:Func} {n:Nat} {args:List AV} {vs:List Value} {W:World} (hf:Tryz.prog.funcs[f]? = some fn) (hc:fn.body.isSome=true) (hrun:kW (call pl n f args σ0)=true)
 (hT:Tabs W) (hv:ay (η0 W) args vs):Calls Tryz.prog f ⟨vs⟩ W λe W'=>e=.returned (.bool true)/\Kept W W':=by
 obtain ⟨σ',hs⟩:=UM hrun;obtain ⟨c,hc⟩:=aeQ.1 hc;refine Calls.mono' (ajz (JH hpl n) names hf hc hs (arY hT) hv ar0) ?_;rintro e W' ⟨v,rfl,⟨η',hr⟩,hk⟩
 simp only [VR] at hr;exact ⟨by rw [hr],hk⟩
/-- A closed call that the evaluator has run to true: from now on one step. -/
abbrev closed (f:FuncId):FuncId×eU:=(f,EG)
theorem oC {pl:List (FuncId×eU)} (hpl:∀p∈pl,dY Tryz.prog p.1 p.2) {f:FuncId} {n:Nat} (hrun:kW (call pl n f [] σ0)=true):∀p∈closed f::pl,dY Tryz.prog p.1 p.2:=by
 obtain ⟨σ',hs⟩:=UM hrun;intro p hp;rcases bZ.1 hp with rfl | hp
 ·exact alK (JH hpl n) FU hs
 ·exact hpl p hp
/-- A world for the witness: both tables hold what their initialisers lay. -/
def lay (c:Array Value):Obj->Obj
 | .cells _ t frozen=>.cells c t frozen
 | o=>o
noncomputable def laidWorld (os:Os):World:=
 { World.holding Tryz.prog os ⟨#[], #[],[]⟩ with heap:=((World.holding Tryz.prog os ⟨#[], #[],[]⟩).heap.modify 0 (lay (Go.Pinned.utf8FirstZ.map λx=>Value.int .u8 (Int.ofNat x)).toArray)).modify 1 (lay ((List.range (2 * 16)).map λj=>Value.int .u8 (Nh j)).toArray) }
end Go.Proofs.YthgifdbaegpbpaaGreatDoor
