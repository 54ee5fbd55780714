/- The evaluator over this program: its prims, its tables, its start. -/
import Derived.Test.YtnlegpmfkopalaaGreatDoorAbsH
import GoSem.PinnedTables
import Derived.Stop.LaidErr
import Derived.Test.YtnlegpmfkopalaaGreatDoorCards
import Derived.Test.YtnlegpmfkopalaaGreatDoorTie
import Derived.ProofKit
import Derived.OpenShut
import Derived.Deep.DeepHandedRow
namespace Go.Proofs.YtnlegpmfkopalaaGreatDoor
open Go.ChangeShapes Go.WideShapes Go.ChangeAt Go.RowKit Go.aN
set_option maxRecDepth 100000
theorem own:ownKnob Tryz.prog.godebug=none:=by kernel_rfl
theorem mixed:Tryz.prog.follows .mixedOrders=true:=by kernel_rfl
theorem alS:(Tryz.prog.funcs.toList.all λfn=>fn.body.isNone || !(fn.name == "runtime.NumGoroutine"))=true:=by kernel_rfl
theorem names:sV Tryz.prog:=by
 intro f fn c hf hc;have hm:fn∈Tryz.prog.funcs.toList:=by
  rw [nZ] at hf;obtain ⟨_,rfl⟩:=hf;simp
 have:=List.all_eq_true.1 alS fn hm;simpa [hc] using this
noncomputable def He:List AV:=(Go.Pinned.utf8FirstZ.map Int.ofNat).map λz=>AV.i .u8 z
def afq:List Nat:=[128,191,160,191,128,159,144,191,128,143]
def Nj (k:Nat):Int:=(afq.getD k 0:Nat)
noncomputable def Du:List AV:=(List.range (2 * 16)).map λj=>.i .u8 (Nj j)
/-- The row's two tables. -/
noncomputable def fF:List (Nat×List AV):=[(0,He),(1,Du)]
noncomputable instance:aF:={ nodes:=[],dec:=[],tabs:=fF,I:=λ_ _=>none,val:=λ_=>none,oI:=by intro n nd h;simp at h,yw:=by intro n b h;simp at h }
theorem ae0:Ext Tryz.prog 141 Extern.AbiNoEscape.same:=Ext.mk' Tryz.func141 (by kernel_rfl) (by kernel_rfl) (by kernel_rfl) (by kernel_rfl)
theorem aq0:Ext Tryz.prog 184 Extern.BytealgCompare.compare:=Ext.mk' Tryz.func184 (by kernel_rfl) (by kernel_rfl) (by kernel_rfl) (by kernel_rfl)
theorem aq1:Ext Tryz.prog 194 (λargs=>Extern.ReflectliteValue.unpack (args.getD 0 (.tuple #[]))):=Ext.mk' Tryz.func194 (by kernel_rfl) (by kernel_rfl) (by kernel_rfl) (by kernel_rfl)
theorem aq3:Ext Tryz.prog 196 (Extern.ReflectliteValue.method (Extern.ReflectliteValue.valueError "reflectlite.Value.Len" 0) Extern.ReflectliteValue.len):=Ext.mk' Tryz.func196 (by kernel_rfl) (by kernel_rfl) (by kernel_rfl) (by kernel_rfl)
theorem aq2:Ext Tryz.prog 195 (Extern.ReflectliteSwapper.swapper "internal/reflectlite" (Extern.ReflectliteValue.valueError "Swapper")):=Ext.mk' Tryz.func195 (by kernel_rfl) (by kernel_rfl) (by kernel_rfl) (by kernel_rfl)
theorem aq4:Ext Tryz.prog 202 (Extern.ReflectliteSwapper.swap true):=Ext.mk' Tryz.func202 (by kernel_rfl) (by kernel_rfl) (by kernel_rfl) (by kernel_rfl)
theorem aq5:Ext Tryz.prog 203 (Extern.ReflectliteSwapper.swap true):=Ext.mk' Tryz.func203 (by kernel_rfl) (by kernel_rfl) (by kernel_rfl) (by kernel_rfl)
theorem aq6:Ext Tryz.prog 204 (Extern.ReflectliteSwapper.swap true):=Ext.mk' Tryz.func204 (by kernel_rfl) (by kernel_rfl) (by kernel_rfl) (by kernel_rfl)
theorem aq7:Ext Tryz.prog 205 (Extern.ReflectliteSwapper.swap true):=Ext.mk' Tryz.func205 (by kernel_rfl) (by kernel_rfl) (by kernel_rfl) (by kernel_rfl)
theorem aq8:Ext Tryz.prog 206 (Extern.ReflectliteSwapper.swap true):=Ext.mk' Tryz.func206 (by kernel_rfl) (by kernel_rfl) (by kernel_rfl) (by kernel_rfl)
theorem aq9:Ext Tryz.prog 207 (Extern.ReflectliteSwapper.swap true):=Ext.mk' Tryz.func207 (by kernel_rfl) (by kernel_rfl) (by kernel_rfl) (by kernel_rfl)
theorem ara:Ext Tryz.prog 208 (Extern.ReflectliteSwapper.swap false):=Ext.mk' Tryz.func208 (by kernel_rfl) (by kernel_rfl) (by kernel_rfl) (by kernel_rfl)
/-- Which function exchanges two elements: by the elements' kind. -/
def Xr:List (Nat×FuncId):=[(1,200),(2,201),(4,203),(9,208)]
theorem apV:YG Tryz.prog Xr:=by
 intro p hp;simp only [Xr,dh,Di,or_false] at hp;rcases hp with rfl | rfl | rfl | rfl<;>kernel_rfl
noncomputable def Qc:List (FuncId×fD):=
 [(141,KZ),(184,VP),(194,VW Tryz.prog),(196,VQ Tryz.prog),(195,VU Tryz.prog Xr),
  (202,Ac Tryz.prog),(203,Ac Tryz.prog),(204,Ac Tryz.prog),(205,Ac Tryz.prog),(206,Ac Tryz.prog),(207,Ac Tryz.prog),(208,Ac Tryz.prog)]
theorem am2:∀p∈Qc,fA Tryz.prog p.1 p.2:=by
 intro p hp;simp only [Qc,dh,Di,or_false] at hp;rcases hp with rfl | rfl | rfl | rfl | rfl | rfl | rfl | rfl | rfl | rfl | rfl | rfl
 ·exact acN ae0
 ·exact amq aq0
 ·exact amv aq1
 ·exact amr aq3
 ·exact amu aq2 apV
 ·exact EX aq4
 ·exact EX aq5
 ·exact EX aq6
 ·exact EX aq7
 ·exact EX aq8
 ·exact EX aq9
 ·exact EX ara
noncomputable def call (pl:List (FuncId×fD)) (n:Nat):Caller:=YM Tryz.prog (MO Tryz.prog) (WH pl) n
theorem Gy {pl:List (FuncId×fD)} (h:∀p∈pl,fA Tryz.prog p.1 p.2) (n:Nat):oL Tryz.prog (call pl n):=afn (aac mixed) (adn h) names n
/-! ### The tables -/
theorem aaO:Tryz.prog.globalNamed "unicode/utf8.first" = some 0:=by kernel_rfl
theorem ajd:(Tryz.prog.globals[0]?).map (·.type)=some 244:=by kernel_rfl
theorem aqx:Tryz.prog.underlying 244=some (.array 256 5):=by kernel_rfl
theorem XF:Tryz.prog.underlying 5=some (.int .u8):=by kernel_rfl
theorem af2:Tryz.prog.cellsOf 244=256:=by kernel_rfl
theorem cellsE:Tryz.prog.cellsOf 5=1:=by kernel_rfl
theorem firstData:Go.Pinned.utf8First=Lib.tabData .u8 (Go.Pinned.utf8FirstZ.map Int.ofNat):=by kernel_rfl
theorem ajb:Tryz.prog.globalNamed "unicode/utf8.acceptRanges" = some 1:=by kernel_rfl
theorem ajc:(Tryz.prog.globals[1]?).map (·.type)=some 247:=by kernel_rfl
theorem afX:Tryz.prog.cellsOf 247=2 * 16:=by kernel_rfl
theorem af0:Tryz.prog.cellsOf 245=2:=by kernel_rfl
theorem afp:(Rows.laid_unicode_utf8_acceptRanges:DataW Unit)=VX .u8 16 Nj:=by kernel_rfl
structure Tabs (W:World):Prop where
 first:TabAt W 0 He
 acc:TabAt W 1 Du
abbrev abB:List (String×DataW Unit):=[("unicode/utf8.acceptRanges", Rows.laid_unicode_utf8_acceptRanges),("unicode/utf8.first", Rows.laid_unicode_utf8_first)]
theorem tabs {W:World} (h:laidMetH Tryz.prog abB W):Tabs W:=by
 have h':laidMet Tryz.prog abB W:=h;have h2:=laidMet.tail h';rw [show Rows.laid_unicode_utf8_first=Lib.tabData .u8 (Go.Pinned.utf8FirstZ.map Int.ofNat) from firstData] at h2;refine ⟨aqd (Lib.tabIs_of_head (rest:=[]) aaO ajd aqx XF cellsE af2 h2) aaO, ?_⟩;have h3:Lib.VarReads Tryz.prog W "unicode/utf8.acceptRanges" (VX .u8 16 Nj):=by rw [<- afp];exact Lib.laidMet.reads h' (by simp)
 exact aqe h3 ajb ajc Tryz.underlying247 Tryz.underlying245 (λm fl hm=>by
  match m,hm with
  | 0,hm=>simp at hm;subst hm;exact ⟨XF,rfl,cellsE⟩
  | 1,hm=>simp at hm;subst hm;exact ⟨XF,rfl,cellsE⟩
  | m+2,hm=>simp at hm) rfl af0 afX
noncomputable def σ0:au:={ h:=(Tr.nil.set 0 (some (.cells He 0 false false))).set 1 (some (.cells Du 0 false false)),next:=40,lock:=0 }
theorem arq {id:Nat} {o:aZ} (h:σ0.get id=some o):(id=0/\o=.cells He 0 false false)\/(id=1/\o=.cells Du 0 false false):=by
 have h':=(Tr.tZ (Tr.nil.set 0 (some (aZ.cells He 0 false false))) 1 id (some (aZ.cells Du 0 false false))).symm.trans h;split at h'
 ·next e=>cases h';exact .inr ⟨e,rfl⟩
 ·rw [Tr.tZ] at h'
  split at h'
  ·next e=>cases h';exact .inl ⟨e,rfl⟩
  ·rw [Tr.get_nil] at h';cases h'
theorem Vr:Tryz.prog.globals.size=3:=by kernel_rfl
theorem C9:wS σ0 Tryz.prog.globals.size:=by
 refine ⟨by rw [Vr];decide,λid o ho=>?_⟩;rw [Vr];rcases arq ho with ⟨rfl,rfl⟩ | ⟨rfl,rfl⟩
 ·exact ⟨_,rfl,by simp [aF.tabs,fF],by decide⟩
 ·exact ⟨_,rfl,by simp [aF.tabs,fF],by decide⟩
theorem ars:∀id o,σ0.get id=some o->o.own=false:=C9.own
/-- The start: all that stands in the world is frozen. -/
noncomputable abbrev η0 (W:World):Env:=rU Tryz.prog.globals.size σ0 λb=>W.heap[b]?
theorem arp {W:World} (h:Tabs W):SR Tryz.prog (η0 W) σ0 W:=by
 have tb:∀p∈(aF.tabs:List (Nat×List AV)),TabAt W p.1 p.2:=by
  intro p hp;simp only [aF.tabs,fF,dh,Di,or_false] at hp;rcases hp with rfl | rfl
  ·exact h.first
  ·exact h.acc
 refine Gh C9.1 ?_ (λb o hb=>hb) ?_
 ·intro id o ho
  obtain ⟨c,rfl,hm,hle⟩:=C9.2 id o ho;exact ⟨hle,c,rfl,tb _ hm⟩
 ·intro p hp
  obtain ⟨cs,elem,fr,h1,h2⟩:=tb p hp;exact ⟨cs,elem,fr,h1,h2⟩
def lN:Option (AV×au)->Bool | some (.b true,_)=>true | _=>false
theorem UU {x:Option (AV×au)} (h:lN x=true):∃σ',x=some (.b true,σ'):=by
 unfold lN at h;split at h
 ·exact ⟨_,rfl⟩
 ·cases h
/-- A run of the evaluator that says true: what the call does. -/
theorem ar5 {pl:List (FuncId×fD)} (hpl:∀p∈pl,fA Tryz.prog p.1 p.2) {f:FuncId} {fn:Func} {n:Nat} {args:List AV} {vs:List Value} {W:World} (hf:Tryz.prog.funcs[f]? = some fn) (hc:fn.body.isSome=true) (hrun:lN (call pl n f args σ0)=true)
 (hT:Tabs W) (hv:ay (η0 W) args vs):Calls Tryz.prog f ⟨vs⟩ W λe W'=>e=.returned (.bool true)/\Kept W W':=by
 obtain ⟨σ',hs⟩:=UU hrun;obtain ⟨c,hc⟩:=afh.1 hc;refine Calls.mono' (aku (Gy hpl n) names hf hc hs (arp hT) hv ars) ?_;rintro e W' ⟨v,rfl,⟨η',hr⟩,hk⟩
 simp only [VR] at hr;exact ⟨by rw [hr],hk⟩
/-- A closed call that the evaluator has run to true: from now on one step. -/
abbrev closed (f:FuncId):FuncId×fD:=(f,EW)
theorem oC {pl:List (FuncId×fD)} (hpl:∀p∈pl,fA Tryz.prog p.1 p.2) {f:FuncId} {n:Nat} (hrun:lN (call pl n f [] σ0)=true):∀p∈closed f::pl,fA Tryz.prog p.1 p.2:=by
 obtain ⟨σ',hs⟩:=UU hrun;intro p hp;rcases dh.1 hp with rfl | hp
 ·exact amo (Gy hpl n) C9 hs
 ·exact hpl p hp
/-- A world for the witness: both tables hold what their initialisers lay. -/
def lay (c:Array Value):Obj->Obj
 | .cells _ t frozen=>.cells c t frozen
 | o=>o
noncomputable def laidWorld (os:Os):World:=
 { World.holding Tryz.prog os ⟨#[], #[],[]⟩ with heap:=((World.holding Tryz.prog os ⟨#[], #[],[]⟩).heap.modify 0 (lay (Go.Pinned.utf8FirstZ.map λx=>Value.int .u8 (Int.ofNat x)).toArray)).modify 1 (lay ((List.range (2 * 16)).map λj=>Value.int .u8 (Nj j)).toArray) }
end Go.Proofs.YtnlegpmfkopalaaGreatDoor
