/- The evaluator over this program: its prims, its tables, its start. -/
import Derived.Test.YtjglbndncdkhhaaGreatDoorAbsH
import GoSem.PinnedTables
import Derived.Stop.LaidErr
import Derived.Test.YtjglbndncdkhhaaGreatDoorCards
import Derived.Test.YtjglbndncdkhhaaGreatDoorTie
import Derived.ProofKit
import Derived.OpenShut
import Derived.Deep.DeepHandedRow
namespace Go.Proofs.YtjglbndncdkhhaaGreatDoor
open Go.ChangeShapes Go.WideShapes Go.ChangeAt Go.RowKit Go.aN
set_option maxRecDepth 100000
theorem own:ownKnob Tryz.prog.godebug=none:=by kernel_rfl
theorem mixed:Tryz.prog.follows .mixedOrders=true:=by kernel_rfl
theorem akS:(Tryz.prog.funcs.toList.all λfn=>fn.body.isNone || !(fn.name == "runtime.NumGoroutine"))=true:=by kernel_rfl
theorem names:sG Tryz.prog:=by
 intro f fn c hf hc;have hm:fn∈Tryz.prog.funcs.toList:=by
  rw [nP] at hf;obtain ⟨_,rfl⟩:=hf;simp
 have:=List.all_eq_true.1 akS fn hm;simpa [hc] using this
noncomputable def Gi:List AV:=(Go.Pinned.utf8FirstZ.map Int.ofNat).map λz=>AV.i .u8 z
def afp:List Nat:=[128,191,160,191,128,159,144,191,128,143]
def Nq (k:Nat):Int:=(afp.getD k 0:Nat)
noncomputable def Df:List AV:=(List.range (2 * 16)).map λj=>.i .u8 (Nq j)
/-- The row's two tables. -/
noncomputable def fQ:List (Nat×List AV):=[(0,Gi),(1,Df)]
noncomputable instance:aF:={ nodes:=[],dec:=[],tabs:=fQ,I:=λ_ _=>none,val:=λ_=>none,nZ:=by intro n nd h;simp at h,yt:=by intro n b h;simp at h }
theorem ae1:Ext Tryz.prog 105 Extern.AbiNoEscape.same:=Ext.mk' Tryz.func105 (by kernel_rfl) (by kernel_rfl) (by kernel_rfl) (by kernel_rfl)
theorem apT:Ext Tryz.prog 175 Extern.BytealgCompare.compare:=Ext.mk' Tryz.func175 (by kernel_rfl) (by kernel_rfl) (by kernel_rfl) (by kernel_rfl)
theorem apU:Ext Tryz.prog 185 (λargs=>Extern.ReflectliteValue.unpack (args.getD 0 (.tuple #[]))):=Ext.mk' Tryz.func185 (by kernel_rfl) (by kernel_rfl) (by kernel_rfl) (by kernel_rfl)
theorem apW:Ext Tryz.prog 187 (Extern.ReflectliteValue.method (Extern.ReflectliteValue.valueError "reflectlite.Value.Len" 0) Extern.ReflectliteValue.len):=Ext.mk' Tryz.func187 (by kernel_rfl) (by kernel_rfl) (by kernel_rfl) (by kernel_rfl)
theorem apV:Ext Tryz.prog 186 (Extern.ReflectliteSwapper.swapper "internal/reflectlite" (Extern.ReflectliteValue.valueError "Swapper")):=Ext.mk' Tryz.func186 (by kernel_rfl) (by kernel_rfl) (by kernel_rfl) (by kernel_rfl)
theorem apX:Ext Tryz.prog 193 (Extern.ReflectliteSwapper.swap true):=Ext.mk' Tryz.func193 (by kernel_rfl) (by kernel_rfl) (by kernel_rfl) (by kernel_rfl)
theorem apY:Ext Tryz.prog 194 (Extern.ReflectliteSwapper.swap true):=Ext.mk' Tryz.func194 (by kernel_rfl) (by kernel_rfl) (by kernel_rfl) (by kernel_rfl)
theorem apZ:Ext Tryz.prog 195 (Extern.ReflectliteSwapper.swap true):=Ext.mk' Tryz.func195 (by kernel_rfl) (by kernel_rfl) (by kernel_rfl) (by kernel_rfl)
theorem ap0:Ext Tryz.prog 196 (Extern.ReflectliteSwapper.swap true):=Ext.mk' Tryz.func196 (by kernel_rfl) (by kernel_rfl) (by kernel_rfl) (by kernel_rfl)
theorem ap1:Ext Tryz.prog 197 (Extern.ReflectliteSwapper.swap true):=Ext.mk' Tryz.func197 (by kernel_rfl) (by kernel_rfl) (by kernel_rfl) (by kernel_rfl)
theorem ap2:Ext Tryz.prog 198 (Extern.ReflectliteSwapper.swap true):=Ext.mk' Tryz.func198 (by kernel_rfl) (by kernel_rfl) (by kernel_rfl) (by kernel_rfl)
theorem ap3:Ext Tryz.prog 199 (Extern.ReflectliteSwapper.swap false):=Ext.mk' Tryz.func199 (by kernel_rfl) (by kernel_rfl) (by kernel_rfl) (by kernel_rfl)
/-- Which function exchanges two elements: by the elements' kind. -/
def XI:List (Nat×FuncId):=[(1,191),(2,192),(4,194),(9,199)]
theorem aoT:YT Tryz.prog XI:=by
 intro p hp;simp only [XI,bU,Fe,or_false] at hp;rcases hp with rfl | rfl | rfl | rfl<;>kernel_rfl
noncomputable def Qe:List (FuncId×eP):=
 [(105,KR),(175,V8),(185,Wj Tryz.prog),(187,V9 Tryz.prog),(186,Wi Tryz.prog XI),
  (193,Ad Tryz.prog),(194,Ad Tryz.prog),(195,Ad Tryz.prog),(196,Ad Tryz.prog),(197,Ad Tryz.prog),(198,Ad Tryz.prog),(199,Ad Tryz.prog)]
theorem amk:∀p∈Qe,dY Tryz.prog p.1 p.2:=by
 intro p hp;simp only [Qe,bU,Fe,or_false] at hp;rcases hp with rfl | rfl | rfl | rfl | rfl | rfl | rfl | rfl | rfl | rfl | rfl | rfl
 ·exact ac3 ae1
 ·exact alp apT
 ·exact alu apU
 ·exact alq apW
 ·exact als apV aoT
 ·exact Ep apX
 ·exact Ep apY
 ·exact Ep apZ
 ·exact Ep ap0
 ·exact Ep ap1
 ·exact Ep ap2
 ·exact Ep ap3
noncomputable def call (pl:List (FuncId×eP)) (n:Nat):Caller:=Y0 Tryz.prog (MV Tryz.prog) (Xb pl) n
theorem Jg {pl:List (FuncId×eP)} (h:∀p∈pl,dY Tryz.prog p.1 p.2) (n:Nat):oV Tryz.prog (call pl n):=afm (aaq mixed) (adk h) names n
/-! ### The tables -/
theorem aa2:Tryz.prog.globalNamed "unicode/utf8.first" = some 0:=by kernel_rfl
theorem aiK:(Tryz.prog.globals[0]?).map (·.type)=some 227:=by kernel_rfl
theorem apw:Tryz.prog.underlying 227=some (.array 256 5):=by kernel_rfl
theorem X3:Tryz.prog.underlying 5=some (.int .u8):=by kernel_rfl
theorem afY:Tryz.prog.cellsOf 227=256:=by kernel_rfl
theorem cellsE:Tryz.prog.cellsOf 5=1:=by kernel_rfl
theorem firstData:Go.Pinned.utf8First=Lib.tabData .u8 (Go.Pinned.utf8FirstZ.map Int.ofNat):=by kernel_rfl
theorem aiI:Tryz.prog.globalNamed "unicode/utf8.acceptRanges" = some 1:=by kernel_rfl
theorem aiJ:(Tryz.prog.globals[1]?).map (·.type)=some 230:=by kernel_rfl
theorem afU:Tryz.prog.cellsOf 230=2 * 16:=by kernel_rfl
theorem afX:Tryz.prog.cellsOf 228=2:=by kernel_rfl
theorem afo:(Rows.laid_unicode_utf8_acceptRanges:DataW Unit)=Wl .u8 16 Nq:=by kernel_rfl
structure Tabs (W:World):Prop where
 first:TabAt W 0 Gi
 acc:TabAt W 1 Df
abbrev abU:List (String×DataW Unit):=[("unicode/utf8.acceptRanges", Rows.laid_unicode_utf8_acceptRanges),("unicode/utf8.first", Rows.laid_unicode_utf8_first)]
theorem tabs {W:World} (h:laidMetH Tryz.prog abU W):Tabs W:=by
 have h':laidMet Tryz.prog abU W:=h;have h2:=laidMet.tail h';rw [show Rows.laid_unicode_utf8_first=Lib.tabData .u8 (Go.Pinned.utf8FirstZ.map Int.ofNat) from firstData] at h2;refine ⟨apa (Lib.tabIs_of_head (rest:=[]) aa2 aiK apw X3 cellsE afY h2) aa2, ?_⟩;have h3:Lib.VarReads Tryz.prog W "unicode/utf8.acceptRanges" (Wl .u8 16 Nq):=by rw [<- afo];exact Lib.laidMet.reads h' (by simp)
 exact apb h3 aiI aiJ Tryz.underlying230 Tryz.underlying228 (λm fl hm=>by
  match m,hm with
  | 0,hm=>simp at hm;subst hm;exact ⟨X3,rfl,cellsE⟩
  | 1,hm=>simp at hm;subst hm;exact ⟨X3,rfl,cellsE⟩
  | m+2,hm=>simp at hm) rfl afX afU
noncomputable def σ0:ak:={ h:=(Tr.nil.set 0 (some (.cells Gi 0 false false))).set 1 (some (.cells Df 0 false false)),next:=40,lock:=0 }
theorem aqf {id:Nat} {o:aY} (h:σ0.get id=some o):(id=0/\o=.cells Gi 0 false false)\/(id=1/\o=.cells Df 0 false false):=by
 have h':=(Tr.tH (Tr.nil.set 0 (some (aY.cells Gi 0 false false))) 1 id (some (aY.cells Df 0 false false))).symm.trans h;split at h'
 ·next e=>cases h';exact .inr ⟨e,rfl⟩
 ·rw [Tr.tH] at h'
  split at h'
  ·next e=>cases h';exact .inl ⟨e,rfl⟩
  ·rw [Tr.get_nil] at h';cases h'
theorem VI:Tryz.prog.globals.size=3:=by kernel_rfl
theorem EU:xR σ0 Tryz.prog.globals.size:=by
 refine ⟨by rw [VI];decide,λid o ho=>?_⟩;rw [VI];rcases aqf ho with ⟨rfl,rfl⟩ | ⟨rfl,rfl⟩
 ·exact ⟨_,rfl,by simp [aF.tabs,fQ],by decide⟩
 ·exact ⟨_,rfl,by simp [aF.tabs,fQ],by decide⟩
theorem aqg:∀id o,σ0.get id=some o->o.own=false:=EU.own
/-- The start: all that stands in the world is frozen. -/
noncomputable abbrev η0 (W:World):Env:=uQ Tryz.prog.globals.size σ0 λb=>W.heap[b]?
theorem aqe {W:World} (h:Tabs W):SR Tryz.prog (η0 W) σ0 W:=by
 have tb:∀p∈(aF.tabs:List (Nat×List AV)),TabAt W p.1 p.2:=by
  intro p hp;simp only [aF.tabs,fQ,bU,Fe,or_false] at hp;rcases hp with rfl | rfl
  ·exact h.first
  ·exact h.acc
 refine IX EU.1 ?_ (λb o hb=>hb) ?_
 ·intro id o ho
  obtain ⟨c,rfl,hm,hle⟩:=EU.2 id o ho;exact ⟨hle,c,rfl,tb _ hm⟩
 ·intro p hp
  obtain ⟨cs,elem,fr,h1,h2⟩:=tb p hp;exact ⟨cs,elem,fr,h1,h2⟩
def kS:Option (AV×ak)->Bool | some (.b true,_)=>true | _=>false
theorem U4 {x:Option (AV×ak)} (h:kS x=true):∃σ',x=some (.b true,σ'):=by
 unfold kS at h;split at h
 ·exact ⟨_,rfl⟩
 ·cases h
/-- A run of the evaluator that says true: what the call does. -/
theorem aqR {pl:List (FuncId×eP)} (hpl:∀p∈pl,dY Tryz.prog p.1 p.2) {f:FuncId} {fn:Func} {n:Nat} {args:List AV} {vs:List Value} {W:World} (hf:Tryz.prog.funcs[f]? = some fn) (hc:fn.body.isSome=true) (hrun:kS (call pl n f args σ0)=true)
 (hT:Tabs W) (hv:ay (η0 W) args vs):Calls Tryz.prog f ⟨vs⟩ W λe W'=>e=.returned (.bool true)/\Kept W W':=by
 obtain ⟨σ',hs⟩:=U4 hrun;obtain ⟨c,hc⟩:=afh.1 hc;refine Calls.mono' (ajW (Jg hpl n) names hf hc hs (aqe hT) hv aqg) ?_;rintro e W' ⟨v,rfl,⟨η',hr⟩,hk⟩
 simp only [VR] at hr;exact ⟨by rw [hr],hk⟩
/-- A closed call that the evaluator has run to true: from now on one step. -/
abbrev closed (f:FuncId):FuncId×eP:=(f,Eo)
theorem ng {pl:List (FuncId×eP)} (hpl:∀p∈pl,dY Tryz.prog p.1 p.2) {f:FuncId} {n:Nat} (hrun:kS (call pl n f [] σ0)=true):∀p∈closed f::pl,dY Tryz.prog p.1 p.2:=by
 obtain ⟨σ',hs⟩:=U4 hrun;intro p hp;rcases bU.1 hp with rfl | hp
 ·exact alo (Jg hpl n) EU hs
 ·exact hpl p hp
/-- A world for the witness: both tables hold what their initialisers lay. -/
def lay (c:Array Value):Obj->Obj
 | .cells _ t frozen=>.cells c t frozen
 | o=>o
noncomputable def laidWorld (os:Os):World:=
 { World.holding Tryz.prog os ⟨#[], #[],[]⟩ with heap:=((World.holding Tryz.prog os ⟨#[], #[],[]⟩).heap.modify 0 (lay (Go.Pinned.utf8FirstZ.map λx=>Value.int .u8 (Int.ofNat x)).toArray)).modify 1 (lay ((List.range (2 * 16)).map λj=>Value.int .u8 (Nq j)).toArray) }
end Go.Proofs.YtjglbndncdkhhaaGreatDoor
