/- The evaluator over this program: its prims, its tables, its start. -/
import Derived.Test.YtpioimdhbbgniaaGreatDoorAbsH
import GoSem.PinnedTables
import Derived.Stop.LaidErr
import Derived.Test.YtpioimdhbbgniaaGreatDoorCards
import Derived.Test.YtpioimdhbbgniaaGreatDoorTie
import Derived.ProofKit
import Derived.OpenShut
import Derived.Deep.DeepHandedRow
namespace Go.Proofs.YtpioimdhbbgniaaGreatDoor
open Go.ChangeShapes Go.WideShapes Go.ChangeAt Go.RowKit Go.aJ
set_option maxRecDepth 100000
theorem own:ownKnob Tryz.prog.godebug=none:=by kernel_rfl
theorem mixed:Tryz.prog.follows .mixedOrders=true:=by kernel_rfl
theorem aiY:(Tryz.prog.funcs.toList.all λfn=>fn.body.isNone || !(fn.name == "runtime.NumGoroutine"))=true:=by kernel_rfl
theorem names:sK Tryz.prog:=by
 intro f fn c hf hc;have hm:fn∈Tryz.prog.funcs.toList:=by
  rw [oh] at hf;obtain ⟨_,rfl⟩:=hf;simp
 have:=List.all_eq_true.1 aiY fn hm;simpa [hc] using this
noncomputable def FM:List AV:=(Go.Pinned.utf8FirstZ.map Int.ofNat).map λz=>AV.i .u8 z
def adM:List Nat:=[128,191,160,191,128,159,144,191,128,143]
def LQ (k:Nat):Int:=(adM.getD k 0:Nat)
noncomputable def CG:List AV:=(List.range (2 * 16)).map λj=>.i .u8 (LQ j)
/-- The row's two tables. -/
noncomputable def fU:List (Nat×List AV):=[(1,FM),(2,CG)]
noncomputable instance:aC:={ nodes:=[],dec:=[],tabs:=fU,I:=λ_ _=>none,val:=λ_=>none,oK:=by intro n nd h;simp at h,x9:=by intro n b h;simp at h }
theorem x51:Ext Tryz.prog 51 Extern.AbiNoEscape.same:=Ext.mk' Tryz.func51 (by kernel_rfl) (by kernel_rfl) (by kernel_rfl) (by kernel_rfl)
theorem ao3:Ext Tryz.prog 163 Extern.BytealgCompare.compare:=Ext.mk' Tryz.func163 (by kernel_rfl) (by kernel_rfl) (by kernel_rfl) (by kernel_rfl)
theorem ao4:Ext Tryz.prog 173 (λargs=>Extern.ReflectliteValue.unpack (args.getD 0 (.tuple #[]))):=Ext.mk' Tryz.func173 (by kernel_rfl) (by kernel_rfl) (by kernel_rfl) (by kernel_rfl)
theorem ao6:Ext Tryz.prog 175 (Extern.ReflectliteValue.method (Extern.ReflectliteValue.valueError "reflectlite.Value.Len" 0) Extern.ReflectliteValue.len):=Ext.mk' Tryz.func175 (by kernel_rfl) (by kernel_rfl) (by kernel_rfl) (by kernel_rfl)
theorem ao5:Ext Tryz.prog 174 (Extern.ReflectliteSwapper.swapper "internal/reflectlite" (Extern.ReflectliteValue.valueError "Swapper")):=Ext.mk' Tryz.func174 (by kernel_rfl) (by kernel_rfl) (by kernel_rfl) (by kernel_rfl)
theorem ao7:Ext Tryz.prog 181 (Extern.ReflectliteSwapper.swap true):=Ext.mk' Tryz.func181 (by kernel_rfl) (by kernel_rfl) (by kernel_rfl) (by kernel_rfl)
theorem ao8:Ext Tryz.prog 182 (Extern.ReflectliteSwapper.swap true):=Ext.mk' Tryz.func182 (by kernel_rfl) (by kernel_rfl) (by kernel_rfl) (by kernel_rfl)
theorem ao9:Ext Tryz.prog 183 (Extern.ReflectliteSwapper.swap true):=Ext.mk' Tryz.func183 (by kernel_rfl) (by kernel_rfl) (by kernel_rfl) (by kernel_rfl)
theorem apa:Ext Tryz.prog 184 (Extern.ReflectliteSwapper.swap true):=Ext.mk' Tryz.func184 (by kernel_rfl) (by kernel_rfl) (by kernel_rfl) (by kernel_rfl)
theorem apb:Ext Tryz.prog 185 (Extern.ReflectliteSwapper.swap true):=Ext.mk' Tryz.func185 (by kernel_rfl) (by kernel_rfl) (by kernel_rfl) (by kernel_rfl)
theorem apc:Ext Tryz.prog 186 (Extern.ReflectliteSwapper.swap true):=Ext.mk' Tryz.func186 (by kernel_rfl) (by kernel_rfl) (by kernel_rfl) (by kernel_rfl)
theorem apd:Ext Tryz.prog 187 (Extern.ReflectliteSwapper.swap false):=Ext.mk' Tryz.func187 (by kernel_rfl) (by kernel_rfl) (by kernel_rfl) (by kernel_rfl)
theorem xMk:Ext Tryz.prog 52 (Extern.BytealgMakeNoZero.makeNoZero #[3] #[51]):=Ext.mk' Tryz.func52 (by kernel_rfl) (by kernel_rfl) (by kernel_rfl) (by kernel_rfl)
/-- Which function exchanges two elements: by the elements' kind. -/
def VX:List (Nat×FuncId):=[(1,179),(2,180),(4,182),(9,187)]
theorem anK:XB Tryz.prog VX:=by
 intro p hp;simp only [VX,dn,EM,or_false] at hp;rcases hp with rfl | rfl | rfl | rfl<;>kernel_rfl
noncomputable def OZ:List (FuncId×dM):=
 [(51,J3),(163,UD),(173,UM Tryz.prog),(175,UG Tryz.prog),(174,UL Tryz.prog VX),
  (181,zK Tryz.prog),(182,zK Tryz.prog),(183,zK Tryz.prog),(184,zK Tryz.prog),(185,zK Tryz.prog),(186,zK Tryz.prog),(187,zK Tryz.prog),(52,UJ 5)]
theorem aj6:∀p∈OZ,dN Tryz.prog p.1 p.2:=by
 intro p hp;simp only [OZ,dn,EM,or_false] at hp;rcases hp with rfl | rfl | rfl | rfl | rfl | rfl | rfl | rfl | rfl | rfl | rfl | rfl | rfl
 ·exact abK x51
 ·exact ajp ao3
 ·exact ajx ao4
 ·exact ajs ao6
 ·exact ajw ao5 anK
 ·exact D5 ao7
 ·exact D5 ao8
 ·exact D5 ao9
 ·exact D5 apa
 ·exact D5 apb
 ·exact D5 apc
 ·exact D5 apd
 ·exact aju xMk (t:=51) rfl (by kernel_rfl) (by decide) (by kernel_rfl)
noncomputable def call (pl:List (FuncId×dM)) (n:Nat):Caller:=XF Tryz.prog (Lp Tryz.prog) (Vj pl) n
theorem Je {pl:List (FuncId×dM)} (h:∀p∈pl,dN Tryz.prog p.1 p.2) (n:Nat):pU Tryz.prog (call pl n):=adJ (Y0 mixed) (abW h) names n
/-! ### The tables -/
theorem ZY:Tryz.prog.globalNamed "unicode/utf8.first" = some 1:=by kernel_rfl
theorem agl:(Tryz.prog.globals[1]?).map (·.type)=some 208:=by kernel_rfl
theorem aok:Tryz.prog.underlying 208=some (.array 256 5):=by kernel_rfl
theorem Wq:Tryz.prog.underlying 5=some (.int .u8):=by kernel_rfl
theorem ael:Tryz.prog.cellsOf 208=256:=by kernel_rfl
theorem cellsE:Tryz.prog.cellsOf 5=1:=by kernel_rfl
theorem firstData:Go.Pinned.utf8First=Lib.tabData .u8 (Go.Pinned.utf8FirstZ.map Int.ofNat):=by kernel_rfl
theorem agj:Tryz.prog.globalNamed "unicode/utf8.acceptRanges" = some 2:=by kernel_rfl
theorem agk:(Tryz.prog.globals[2]?).map (·.type)=some 211:=by kernel_rfl
theorem aeh:Tryz.prog.cellsOf 211=2 * 16:=by kernel_rfl
theorem aek:Tryz.prog.cellsOf 209=2:=by kernel_rfl
theorem adL:(Rows.laid_unicode_utf8_acceptRanges:DataW Unit)=UN .u8 16 LQ:=by kernel_rfl
structure Tabs (W:World):Prop where
 first:TabAt W 1 FM
 acc:TabAt W 2 CG
abbrev aaL:List (String×DataW Unit):=[("unicode/utf8.acceptRanges", Rows.laid_unicode_utf8_acceptRanges),("unicode/utf8.first", Rows.laid_unicode_utf8_first)]
theorem tabs {W:World} (h:laidMetH Tryz.prog aaL W):Tabs W:=by
 have h':laidMet Tryz.prog aaL W:=h;have h2:=laidMet.tail h';rw [show Rows.laid_unicode_utf8_first=Lib.tabData .u8 (Go.Pinned.utf8FirstZ.map Int.ofNat) from firstData] at h2;refine ⟨an1 (Lib.tabIs_of_head (rest:=[]) ZY agl aok Wq cellsE ael h2) ZY, ?_⟩;have h3:Lib.VarReads Tryz.prog W "unicode/utf8.acceptRanges" (UN .u8 16 LQ):=by rw [<- adL];exact Lib.laidMet.reads h' (by simp)
 exact an2 h3 agj agk Tryz.underlying211 Tryz.underlying209 (λm fl hm=>by
  match m,hm with
  | 0,hm=>simp at hm;subst hm;exact ⟨Wq,rfl,cellsE⟩
  | 1,hm=>simp at hm;subst hm;exact ⟨Wq,rfl,cellsE⟩
  | m+2,hm=>simp at hm) rfl aek aeh
noncomputable def σ0:aj:={ h:=(Tr.nil.set 1 (some (.cells FM 0 false false))).set 2 (some (.cells CG 0 false false)),next:=40,lock:=0 }
theorem apq {id:Nat} {o:aZ} (h:σ0.get id=some o):(id=1/\o=.cells FM 0 false false)\/(id=2/\o=.cells CG 0 false false):=by
 have h':=(Tr.tJ (Tr.nil.set 1 (some (aZ.cells FM 0 false false))) 2 id (some (aZ.cells CG 0 false false))).symm.trans h;split at h'
 ·next e=>cases h';exact .inr ⟨e,rfl⟩
 ·rw [Tr.tJ] at h'
  split at h'
  ·next e=>cases h';exact .inl ⟨e,rfl⟩
  ·rw [Tr.get_nil] at h';cases h'
theorem Uj:Tryz.prog.globals.size=3:=by kernel_rfl
theorem Ew:xM σ0 Tryz.prog.globals.size:=by
 refine ⟨by rw [Uj];decide,λid o ho=>?_⟩;rw [Uj];rcases apq ho with ⟨rfl,rfl⟩ | ⟨rfl,rfl⟩
 ·exact ⟨_,rfl,by simp [aC.tabs,fU],by decide⟩
 ·exact ⟨_,rfl,by simp [aC.tabs,fU],by decide⟩
theorem apr:∀id o,σ0.get id=some o->o.own=false:=Ew.own
/-- The start: all that stands in the world is frozen. -/
noncomputable abbrev η0 (W:World):Env:=uP Tryz.prog.globals.size σ0 λb=>W.heap[b]?
theorem apo {W:World} (h:Tabs W):SR Tryz.prog (η0 W) σ0 W:=by
 have tb:∀p∈(aC.tabs:List (Nat×List AV)),TabAt W p.1 p.2:=by
  intro p hp;simp only [aC.tabs,fU,dn,EM,or_false] at hp;rcases hp with rfl | rfl
  ·exact h.first
  ·exact h.acc
 refine IV Ew.1 ?_ (λb o hb=>hb) ?_
 ·intro id o ho
  obtain ⟨c,rfl,hm,hle⟩:=Ew.2 id o ho;exact ⟨hle,c,rfl,tb _ hm⟩
 ·intro p hp
  obtain ⟨cs,elem,fr,h1,h2⟩:=tb p hp;exact ⟨cs,elem,fr,h1,h2⟩
def kL:Option (AV×aj)->Bool | some (.b true,_)=>true | _=>false
theorem Tz {x:Option (AV×aj)} (h:kL x=true):∃σ',x=some (.b true,σ'):=by
 unfold kL at h;split at h
 ·exact ⟨_,rfl⟩
 ·cases h
/-- A run of the evaluator that says true: what the call does. -/
theorem ap1 {pl:List (FuncId×dM)} (hpl:∀p∈pl,dN Tryz.prog p.1 p.2) {f:FuncId} {fn:Func} {n:Nat} {args:List AV} {vs:List Value} {W:World} (hf:Tryz.prog.funcs[f]? = some fn) (hc:fn.body.isSome=true) (hrun:kL (call pl n f args σ0)=true)
 (hT:Tabs W) (hv:ay (η0 W) args vs):Calls Tryz.prog f ⟨vs⟩ W λe W'=>e=.returned (.bool true)/\Kept W W':=by
 obtain ⟨σ',hs⟩:=Tz hrun;obtain ⟨c,hc⟩:=adG.1 hc;refine Calls.mono' (ahN (Je hpl n) names hf hc hs (apo hT) hv apr) ?_;rintro e W' ⟨v,rfl,⟨η',hr⟩,hk⟩
 simp only [VR] at hr;exact ⟨by rw [hr],hk⟩
/-- A closed call that the evaluator has run to true: from now on one step. -/
abbrev closed (f:FuncId):FuncId×dM:=(f,DZ)
theorem oG {pl:List (FuncId×dM)} (hpl:∀p∈pl,dN Tryz.prog p.1 p.2) {f:FuncId} {n:Nat} (hrun:kL (call pl n f [] σ0)=true):∀p∈closed f::pl,dN Tryz.prog p.1 p.2:=by
 obtain ⟨σ',hs⟩:=Tz hrun;intro p hp;rcases dn.1 hp with rfl | hp
 ·exact ajo (Je hpl n) Ew hs
 ·exact hpl p hp
/-- A world for the witness: both tables hold what their initialisers lay. -/
def lay (c:Array Value):Obj->Obj
 | .cells _ t frozen=>.cells c t frozen
 | o=>o
noncomputable def laidWorld (os:Os):World:=
 { World.holding Tryz.prog os ⟨#[], #[],[]⟩ with heap:=((World.holding Tryz.prog os ⟨#[], #[],[]⟩).heap.modify 1 (lay (Go.Pinned.utf8FirstZ.map λx=>Value.int .u8 (Int.ofNat x)).toArray)).modify 2 (lay ((List.range (2 * 16)).map λj=>Value.int .u8 (LQ j)).toArray) }
end Go.Proofs.YtpioimdhbbgniaaGreatDoor
