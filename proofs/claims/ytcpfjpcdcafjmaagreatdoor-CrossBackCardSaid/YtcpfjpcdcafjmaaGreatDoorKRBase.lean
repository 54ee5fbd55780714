/- The evaluator over this program: its prims, its tables, its start. -/
import Derived.Test.YtcpfjpcdcafjmaaGreatDoorAbsH
import GoSem.PinnedTables
import Derived.Stop.LaidErr
import Derived.Test.YtcpfjpcdcafjmaaGreatDoorCards
import Derived.Test.YtcpfjpcdcafjmaaGreatDoorTie
import Derived.ProofKit
import Derived.OpenShut
import Derived.Deep.DeepHandedRow
namespace Go.Proofs.YtcpfjpcdcafjmaaGreatDoor
open Go.ChangeShapes Go.WideShapes Go.ChangeAt Go.RowKit Go.aO
set_option maxRecDepth 100000
theorem own:ownKnob Tryz.prog.godebug=none:=by kernel_rfl
theorem mixed:Tryz.prog.follows .mixedOrders=true:=by kernel_rfl
theorem amj:(Tryz.prog.funcs.toList.all λfn=>fn.body.isNone || !(fn.name == "runtime.NumGoroutine"))=true:=by kernel_rfl
theorem names:uH Tryz.prog:=by
 intro f fn c hf hc;have hm:fn∈Tryz.prog.funcs.toList:=by
  rw [pG] at hf;obtain ⟨_,rfl⟩:=hf;simp
 have:=List.all_eq_true.1 amj fn hm;simpa [hc] using this
noncomputable def Ib:List AV:=(Go.Pinned.utf8FirstZ.map Int.ofNat).map λz=>AV.i .u8 z
def afQ:List Nat:=[128,191,160,191,128,159,144,191,128,143]
def NZ (k:Nat):Int:=(afQ.getD k 0:Nat)
noncomputable def Ez:List AV:=(List.range (2 * 16)).map λj=>.i .u8 (NZ j)
/-- The row's two tables. -/
noncomputable def fF:List (Nat×List AV):=[(0,Ib),(1,Ez)]
noncomputable instance:aH:={ nodes:=[],dec:=[],tabs:=fF,I:=λ_ _=>none,val:=λ_=>none,pY:=by intro n nd h;simp at h,y9:=by intro n b h;simp at h }
theorem afv:Ext Tryz.prog 143 Extern.AbiNoEscape.same:=Ext.mk' Tryz.func143 (by kernel_rfl) (by kernel_rfl) (by kernel_rfl) (by kernel_rfl)
theorem asU:Ext Tryz.prog 228 Extern.BytealgCompare.compare:=Ext.mk' Tryz.func228 (by kernel_rfl) (by kernel_rfl) (by kernel_rfl) (by kernel_rfl)
theorem asV:Ext Tryz.prog 238 (λargs=>Extern.ReflectliteValue.unpack (args.getD 0 (.tuple #[]))):=Ext.mk' Tryz.func238 (by kernel_rfl) (by kernel_rfl) (by kernel_rfl) (by kernel_rfl)
theorem asX:Ext Tryz.prog 240 (Extern.ReflectliteValue.method (Extern.ReflectliteValue.valueError "reflectlite.Value.Len" 0) Extern.ReflectliteValue.len):=Ext.mk' Tryz.func240 (by kernel_rfl) (by kernel_rfl) (by kernel_rfl) (by kernel_rfl)
theorem asW:Ext Tryz.prog 239 (Extern.ReflectliteSwapper.swapper "internal/reflectlite" (Extern.ReflectliteValue.valueError "Swapper")):=Ext.mk' Tryz.func239 (by kernel_rfl) (by kernel_rfl) (by kernel_rfl) (by kernel_rfl)
theorem asY:Ext Tryz.prog 246 (Extern.ReflectliteSwapper.swap true):=Ext.mk' Tryz.func246 (by kernel_rfl) (by kernel_rfl) (by kernel_rfl) (by kernel_rfl)
theorem asZ:Ext Tryz.prog 247 (Extern.ReflectliteSwapper.swap true):=Ext.mk' Tryz.func247 (by kernel_rfl) (by kernel_rfl) (by kernel_rfl) (by kernel_rfl)
theorem as1:Ext Tryz.prog 248 (Extern.ReflectliteSwapper.swap true):=Ext.mk' Tryz.func248 (by kernel_rfl) (by kernel_rfl) (by kernel_rfl) (by kernel_rfl)
theorem as2:Ext Tryz.prog 249 (Extern.ReflectliteSwapper.swap true):=Ext.mk' Tryz.func249 (by kernel_rfl) (by kernel_rfl) (by kernel_rfl) (by kernel_rfl)
theorem as3:Ext Tryz.prog 250 (Extern.ReflectliteSwapper.swap true):=Ext.mk' Tryz.func250 (by kernel_rfl) (by kernel_rfl) (by kernel_rfl) (by kernel_rfl)
theorem as4:Ext Tryz.prog 251 (Extern.ReflectliteSwapper.swap true):=Ext.mk' Tryz.func251 (by kernel_rfl) (by kernel_rfl) (by kernel_rfl) (by kernel_rfl)
theorem as5:Ext Tryz.prog 252 (Extern.ReflectliteSwapper.swap false):=Ext.mk' Tryz.func252 (by kernel_rfl) (by kernel_rfl) (by kernel_rfl) (by kernel_rfl)
/-- Which function exchanges two elements: by the elements' kind. -/
def XY:List (Nat×FuncId):=[(1,244),(2,245),(4,247),(9,252)]
theorem aru:Y8 Tryz.prog XY:=by
 intro p hp;simp only [XY,cO,Eo,or_false] at hp;rcases hp with rfl | rfl | rfl | rfl<;>kernel_rfl
noncomputable def QB:List (FuncId×eX):=
 [(143,LP),(228,WA),(238,WG Tryz.prog),(240,WB Tryz.prog),(239,WE Tryz.prog XY),
  (246,Bh Tryz.prog),(247,Bh Tryz.prog),(248,Bh Tryz.prog),(249,Bh Tryz.prog),(250,Bh Tryz.prog),(251,Bh Tryz.prog),(252,Bh Tryz.prog)]
theorem ant:∀p∈QB,eF Tryz.prog p.1 p.2:=by
 intro p hp;simp only [QB,cO,Eo,or_false] at hp;rcases hp with rfl | rfl | rfl | rfl | rfl | rfl | rfl | rfl | rfl | rfl | rfl | rfl
 ·exact adG afv
 ·exact amP asU
 ·exact amT asV
 ·exact amQ asX
 ·exact amS asW aru
 ·exact FT asY
 ·exact FT asZ
 ·exact FT as1
 ·exact FT as2
 ·exact FT as3
 ·exact FT as4
 ·exact FT as5
noncomputable def call (pl:List (FuncId×eX)) (n:Nat):Caller:=Zc Tryz.prog (NI Tryz.prog) (Xn pl) n
theorem J8 {pl:List (FuncId×eX)} (h:∀p∈pl,eF Tryz.prog p.1 p.2) (n:Nat):qL Tryz.prog (call pl n):=afN (aaC mixed) (adT h) names n
/-! ### The tables -/
theorem abH:Tryz.prog.globalNamed "unicode/utf8.first" = some 0:=by kernel_rfl
theorem ajb:(Tryz.prog.globals[0]?).map (·.type)=some 292:=by kernel_rfl
theorem ar5:Tryz.prog.underlying 292=some (.array 256 5):=by kernel_rfl
theorem Yf:Tryz.prog.underlying 5=some (.int .u8):=by kernel_rfl
theorem ags:Tryz.prog.cellsOf 292=256:=by kernel_rfl
theorem cellsE:Tryz.prog.cellsOf 5=1:=by kernel_rfl
theorem firstData:Go.Pinned.utf8First=Lib.tabData .u8 (Go.Pinned.utf8FirstZ.map Int.ofNat):=by kernel_rfl
theorem ai9:Tryz.prog.globalNamed "unicode/utf8.acceptRanges" = some 1:=by kernel_rfl
theorem aja:(Tryz.prog.globals[1]?).map (·.type)=some 295:=by kernel_rfl
theorem agn:Tryz.prog.cellsOf 295=2 * 16:=by kernel_rfl
theorem agr:Tryz.prog.cellsOf 293=2:=by kernel_rfl
theorem afP:(Rows.laid_unicode_utf8_acceptRanges:DataW Unit)=WH .u8 16 NZ:=by kernel_rfl
structure Tabs (W:World):Prop where
 first:TabAt W 0 Ib
 acc:TabAt W 1 Ez
abbrev acA:List (String×DataW Unit):=[("unicode/utf8.acceptRanges", Rows.laid_unicode_utf8_acceptRanges),("unicode/utf8.first", Rows.laid_unicode_utf8_first)]
theorem tabs {W:World} (h:laidMetH Tryz.prog acA W):Tabs W:=by
 have h':laidMet Tryz.prog acA W:=h;have h2:=laidMet.tail h';rw [show Rows.laid_unicode_utf8_first=Lib.tabData .u8 (Go.Pinned.utf8FirstZ.map Int.ofNat) from firstData] at h2;refine ⟨arL (Lib.tabIs_of_head (rest:=[]) abH ajb ar5 Yf cellsE ags h2) abH, ?_⟩;have h3:Lib.VarReads Tryz.prog W "unicode/utf8.acceptRanges" (WH .u8 16 NZ):=by rw [<- afP];exact Lib.laidMet.reads h' (by simp)
 exact arM h3 ai9 aja Tryz.underlying295 Tryz.underlying293 (λm fl hm=>by
  match m,hm with
  | 0,hm=>simp at hm;subst hm;exact ⟨Yf,rfl,cellsE⟩
  | 1,hm=>simp at hm;subst hm;exact ⟨Yf,rfl,cellsE⟩
  | m+2,hm=>simp at hm) rfl agr agn
noncomputable def σ0:ak:={ h:=(Tr.nil.set 0 (some (.cells Ib 0 false false))).set 1 (some (.cells Ez 0 false false)),next:=40,lock:=0 }
theorem atg {id:Nat} {o:bn} (h:σ0.get id=some o):(id=0/\o=.cells Ib 0 false false)\/(id=1/\o=.cells Ez 0 false false):=by
 have h':=(Tr.uZ (Tr.nil.set 0 (some (bn.cells Ib 0 false false))) 1 id (some (bn.cells Ez 0 false false))).symm.trans h;split at h'
 ·next e=>cases h';exact .inr ⟨e,rfl⟩
 ·rw [Tr.uZ] at h'
  split at h'
  ·next e=>cases h';exact .inl ⟨e,rfl⟩
  ·rw [Tr.get_nil] at h';cases h'
theorem V3:Tryz.prog.globals.size=3:=by kernel_rfl
theorem Gs:yR σ0 Tryz.prog.globals.size:=by
 refine ⟨by rw [V3];decide,λid o ho=>?_⟩;rw [V3];rcases atg ho with ⟨rfl,rfl⟩ | ⟨rfl,rfl⟩
 ·exact ⟨_,rfl,by simp [aH.tabs,fF],by decide⟩
 ·exact ⟨_,rfl,by simp [aH.tabs,fF],by decide⟩
theorem ath:∀id o,σ0.get id=some o->o.own=false:=Gs.own
/-- The start: all that stands in the world is frozen. -/
noncomputable abbrev η0 (W:World):Env:=wC Tryz.prog.globals.size σ0 λb=>W.heap[b]?
theorem atf {W:World} (h:Tabs W):SR Tryz.prog (η0 W) σ0 W:=by
 have tb:∀p∈(aH.tabs:List (Nat×List AV)),TabAt W p.1 p.2:=by
  intro p hp;simp only [aH.tabs,fF,cO,Eo,or_false] at hp;rcases hp with rfl | rfl
  ·exact h.first
  ·exact h.acc
 refine JO Gs.1 ?_ (λb o hb=>hb) ?_
 ·intro id o ho
  obtain ⟨c,rfl,hm,hle⟩:=Gs.2 id o ho;exact ⟨hle,c,rfl,tb _ hm⟩
 ·intro p hp
  obtain ⟨cs,elem,fr,h1,h2⟩:=tb p hp;exact ⟨cs,elem,fr,h1,h2⟩
def lC:Option (AV×ak)->Bool | some (.b true,_)=>true | _=>false
theorem Vo {x:Option (AV×ak)} (h:lC x=true):∃σ',x=some (.b true,σ'):=by
 unfold lC at h;split at h
 ·exact ⟨_,rfl⟩
 ·cases h
/-- A run of the evaluator that says true: what the call does. -/
theorem atV {pl:List (FuncId×eX)} (hpl:∀p∈pl,eF Tryz.prog p.1 p.2) {f:FuncId} {fn:Func} {n:Nat} {args:List AV} {vs:List Value} {W:World} (hf:Tryz.prog.funcs[f]? = some fn) (hc:fn.body.isSome=true) (hrun:lC (call pl n f args σ0)=true)
 (hT:Tabs W) (hv:aA (η0 W) args vs):Calls Tryz.prog f ⟨vs⟩ W λe W'=>e=.returned (.bool true)/\Kept W W':=by
 obtain ⟨σ',hs⟩:=Vo hrun;obtain ⟨c,hc⟩:=afK.1 hc;refine Calls.mono' (akJ (J8 hpl n) names hf hc hs (atf hT) hv ath) ?_;rintro e W' ⟨v,rfl,⟨η',hr⟩,hk⟩
 simp only [VR] at hr;exact ⟨by rw [hr],hk⟩
/-- A closed call that the evaluator has run to true: from now on one step. -/
abbrev closed (f:FuncId):FuncId×eX:=(f,FQ)
theorem oL {pl:List (FuncId×eX)} (hpl:∀p∈pl,eF Tryz.prog p.1 p.2) {f:FuncId} {n:Nat} (hrun:lC (call pl n f [] σ0)=true):∀p∈closed f::pl,eF Tryz.prog p.1 p.2:=by
 obtain ⟨σ',hs⟩:=Vo hrun;intro p hp;rcases cO.1 hp with rfl | hp
 ·exact amO (J8 hpl n) Gs hs
 ·exact hpl p hp
/-- A world for the witness: both tables hold what their initialisers lay. -/
def lay (c:Array Value):Obj->Obj
 | .cells _ t frozen=>.cells c t frozen
 | o=>o
noncomputable def laidWorld (os:Os):World:=
 { World.holding Tryz.prog os ⟨#[], #[],[]⟩ with heap:=((World.holding Tryz.prog os ⟨#[], #[],[]⟩).heap.modify 0 (lay (Go.Pinned.utf8FirstZ.map λx=>Value.int .u8 (Int.ofNat x)).toArray)).modify 1 (lay ((List.range (2 * 16)).map λj=>Value.int .u8 (NZ j)).toArray) }
end Go.Proofs.YtcpfjpcdcafjmaaGreatDoor
