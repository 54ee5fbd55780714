/- The evaluator over this program: its prims, its tables, its start. -/
import Derived.Test.YtilkjidelblkfaaGreatDoorAbsH
import GoSem.PinnedTables
import Derived.Stop.LaidErr
import Derived.Test.YtilkjidelblkfaaGreatDoorCards
import Derived.Test.YtilkjidelblkfaaGreatDoorTie
import Derived.ProofKit
import Derived.OpenShut
import Derived.Deep.DeepHandedRow
namespace Go.Proofs.YtilkjidelblkfaaGreatDoor
open Go.ChangeShapes Go.WideShapes Go.ChangeAt Go.RowKit Go.aJ
set_option maxRecDepth 100000
theorem own:ownKnob Tryz.prog.godebug=none:=by kernel_rfl
theorem mixed:Tryz.prog.follows .mixedOrders=true:=by kernel_rfl
theorem anS:(Tryz.prog.funcs.toList.all λfn=>fn.body.isNone || !(fn.name == "runtime.NumGoroutine"))=true:=by kernel_rfl
theorem names:uh Tryz.prog:=by
 intro f fn c hf hc;have hm:fn∈Tryz.prog.funcs.toList:=by
  rw [nN] at hf;obtain ⟨_,rfl⟩:=hf;simp
 have:=List.all_eq_true.1 anS fn hm;simpa [hc] using this
noncomputable def Io:List AV:=(Go.Pinned.utf8FirstZ.map Int.ofNat).map λz=>AV.i .u8 z
def agK:List Nat:=[128,191,160,191,128,159,144,191,128,143]
def Om (k:Nat):Int:=(agK.getD k 0:Nat)
noncomputable def Ec:List AV:=(List.range (2 * 16)).map λj=>.i .u8 (Om j)
/-- The row's two tables. -/
noncomputable def fB:List (Nat×List AV):=[(0,Io),(1,Ec)]
noncomputable instance:aG:={ nodes:=[],dec:=[],tabs:=fB,I:=λ_ _=>none,val:=λ_=>none,oV:=by intro n nd h;simp at h,yY:=by intro n b h;simp at h }
theorem agk:Ext Tryz.prog 169 Extern.AbiNoEscape.same:=Ext.mk' Tryz.func169 (by kernel_rfl) (by kernel_rfl) (by kernel_rfl) (by kernel_rfl)
theorem ati:Ext Tryz.prog 198 Extern.BytealgCompare.compare:=Ext.mk' Tryz.func198 (by kernel_rfl) (by kernel_rfl) (by kernel_rfl) (by kernel_rfl)
theorem atj:Ext Tryz.prog 274 (λargs=>Extern.ReflectliteValue.unpack (args.getD 0 (.tuple #[]))):=Ext.mk' Tryz.func274 (by kernel_rfl) (by kernel_rfl) (by kernel_rfl) (by kernel_rfl)
theorem atm:Ext Tryz.prog 276 (Extern.ReflectliteValue.method (Extern.ReflectliteValue.valueError "reflectlite.Value.Len" 0) Extern.ReflectliteValue.len):=Ext.mk' Tryz.func276 (by kernel_rfl) (by kernel_rfl) (by kernel_rfl) (by kernel_rfl)
theorem atl:Ext Tryz.prog 275 (Extern.ReflectliteSwapper.swapper "internal/reflectlite" (Extern.ReflectliteValue.valueError "Swapper")):=Ext.mk' Tryz.func275 (by kernel_rfl) (by kernel_rfl) (by kernel_rfl) (by kernel_rfl)
theorem atn:Ext Tryz.prog 282 (Extern.ReflectliteSwapper.swap true):=Ext.mk' Tryz.func282 (by kernel_rfl) (by kernel_rfl) (by kernel_rfl) (by kernel_rfl)
theorem ato:Ext Tryz.prog 283 (Extern.ReflectliteSwapper.swap true):=Ext.mk' Tryz.func283 (by kernel_rfl) (by kernel_rfl) (by kernel_rfl) (by kernel_rfl)
theorem atp:Ext Tryz.prog 284 (Extern.ReflectliteSwapper.swap true):=Ext.mk' Tryz.func284 (by kernel_rfl) (by kernel_rfl) (by kernel_rfl) (by kernel_rfl)
theorem atq:Ext Tryz.prog 285 (Extern.ReflectliteSwapper.swap true):=Ext.mk' Tryz.func285 (by kernel_rfl) (by kernel_rfl) (by kernel_rfl) (by kernel_rfl)
theorem atr:Ext Tryz.prog 286 (Extern.ReflectliteSwapper.swap true):=Ext.mk' Tryz.func286 (by kernel_rfl) (by kernel_rfl) (by kernel_rfl) (by kernel_rfl)
theorem att:Ext Tryz.prog 287 (Extern.ReflectliteSwapper.swap true):=Ext.mk' Tryz.func287 (by kernel_rfl) (by kernel_rfl) (by kernel_rfl) (by kernel_rfl)
theorem atu:Ext Tryz.prog 288 (Extern.ReflectliteSwapper.swap false):=Ext.mk' Tryz.func288 (by kernel_rfl) (by kernel_rfl) (by kernel_rfl) (by kernel_rfl)
theorem ath:Ext Tryz.prog 191 add64Entry:=Ext.mk' Tryz.func191 (by kernel_rfl) (by kernel_rfl) (by kernel_rfl) (by kernel_rfl)
/-- Which function exchanges two elements: by the elements' kind. -/
def Yy:List (Nat×FuncId):=[(1,280),(2,281),(4,283),(9,288)]
theorem ar0:ZO Tryz.prog Yy:=by
 intro p hp;simp only [Yy,bC,D5,or_false] at hp;rcases hp with rfl | rfl | rfl | rfl<;>kernel_rfl
noncomputable def Ri:List (FuncId×dR):=
 [(169,Md),(198,Xi),(274,Xm Tryz.prog),(276,Xj Tryz.prog),(275,Xl Tryz.prog Yy),
  (282,Bo Tryz.prog),(283,Bo Tryz.prog),(284,Bo Tryz.prog),(285,Bo Tryz.prog),(286,Bo Tryz.prog),(287,Bo Tryz.prog),(288,Bo Tryz.prog),(191,Xg)]
theorem ao6:∀p∈Ri,dS Tryz.prog p.1 p.2:=by
 intro p hp;simp only [Ri,bC,D5,or_false] at hp;rcases hp with rfl | rfl | rfl | rfl | rfl | rfl | rfl | rfl | rfl | rfl | rfl | rfl | rfl
 ·exact ad7 agk
 ·exact aoq ati
 ·exact aou atj
 ·exact aor atm
 ·exact aot atl ar0
 ·exact FU atn
 ·exact FU ato
 ·exact FU atp
 ·exact FU atq
 ·exact FU atr
 ·exact FU att
 ·exact FU atu
 ·exact aom ath
noncomputable def call (pl:List (FuncId×dR)) (n:Nat):Caller:=ZU Tryz.prog (N7 Tryz.prog) (X3 pl) n
theorem KC {pl:List (FuncId×dR)} (h:∀p∈pl,dS Tryz.prog p.1 p.2) (n:Nat):qj Tryz.prog (call pl n):=agG (abk mixed) (aeH h) names n
/-! ### The tables -/
theorem abZ:Tryz.prog.globalNamed "unicode/utf8.first" = some 0:=by kernel_rfl
theorem ak5:(Tryz.prog.globals[0]?).map (·.type)=some 217:=by kernel_rfl
theorem asO:Tryz.prog.underlying 217=some (.array 256 5):=by kernel_rfl
theorem YN:Tryz.prog.underlying 5=some (.int .u8):=by kernel_rfl
theorem ahy:Tryz.prog.cellsOf 217=256:=by kernel_rfl
theorem cellsE:Tryz.prog.cellsOf 5=1:=by kernel_rfl
theorem firstData:Go.Pinned.utf8First=Lib.tabData .u8 (Go.Pinned.utf8FirstZ.map Int.ofNat):=by kernel_rfl
theorem ak3:Tryz.prog.globalNamed "unicode/utf8.acceptRanges" = some 1:=by kernel_rfl
theorem ak4:(Tryz.prog.globals[1]?).map (·.type)=some 220:=by kernel_rfl
theorem ahu:Tryz.prog.cellsOf 220=2 * 16:=by kernel_rfl
theorem ahx:Tryz.prog.cellsOf 218=2:=by kernel_rfl
theorem agJ:(Rows.laid_unicode_utf8_acceptRanges:DataW Unit)=Xp .u8 16 Om:=by kernel_rfl
structure Tabs (W:World):Prop where
 first:TabAt W 0 Io
 acc:TabAt W 1 Ec
abbrev acX:List (String×DataW Unit):=[("unicode/utf8.acceptRanges", Rows.laid_unicode_utf8_acceptRanges),("unicode/utf8.first", Rows.laid_unicode_utf8_first)]
theorem tabs {W:World} (h:laidMetH Tryz.prog acX W):Tabs W:=by
 have h':laidMet Tryz.prog acX W:=h;have h2:=laidMet.tail h';rw [show Rows.laid_unicode_utf8_first=Lib.tabData .u8 (Go.Pinned.utf8FirstZ.map Int.ofNat) from firstData] at h2;refine ⟨asj (Lib.tabIs_of_head (rest:=[]) abZ ak5 asO YN cellsE ahy h2) abZ, ?_⟩;have h3:Lib.VarReads Tryz.prog W "unicode/utf8.acceptRanges" (Xp .u8 16 Om):=by rw [<- agJ];exact Lib.laidMet.reads h' (by simp)
 exact asl h3 ak3 ak4 Tryz.underlying220 Tryz.underlying218 (λm fl hm=>by
  match m,hm with
  | 0,hm=>simp at hm;subst hm;exact ⟨YN,rfl,cellsE⟩
  | 1,hm=>simp at hm;subst hm;exact ⟨YN,rfl,cellsE⟩
  | m+2,hm=>simp at hm) rfl ahx ahu
noncomputable def σ0:au:={ h:=(Tr.nil.set 0 (some (.cells Io 0 false false))).set 1 (some (.cells Ec 0 false false)),next:=40,lock:=0 }
theorem atC {id:Nat} {o:aY} (h:σ0.get id=some o):(id=0/\o=.cells Io 0 false false)\/(id=1/\o=.cells Ec 0 false false):=by
 have h':=(Tr.uM (Tr.nil.set 0 (some (aY.cells Io 0 false false))) 1 id (some (aY.cells Ec 0 false false))).symm.trans h;split at h'
 ·next e=>cases h';exact .inr ⟨e,rfl⟩
 ·rw [Tr.uM] at h'
  split at h'
  ·next e=>cases h';exact .inl ⟨e,rfl⟩
  ·rw [Tr.get_nil] at h';cases h'
theorem WR:Tryz.prog.globals.size=3:=by kernel_rfl
theorem Gy:yJ σ0 Tryz.prog.globals.size:=by
 refine ⟨by rw [WR];decide,λid o ho=>?_⟩;rw [WR];rcases atC ho with ⟨rfl,rfl⟩ | ⟨rfl,rfl⟩
 ·exact ⟨_,rfl,by simp [aG.tabs,fB],by decide⟩
 ·exact ⟨_,rfl,by simp [aG.tabs,fB],by decide⟩
theorem atD:∀id o,σ0.get id=some o->o.own=false:=Gy.own
/-- The start: all that stands in the world is frozen. -/
noncomputable abbrev η0 (W:World):Env:=vV Tryz.prog.globals.size σ0 λb=>W.heap[b]?
theorem atB {W:World} (h:Tabs W):SR Tryz.prog (η0 W) σ0 W:=by
 have tb:∀p∈(aG.tabs:List (Nat×List AV)),TabAt W p.1 p.2:=by
  intro p hp;simp only [aG.tabs,fB,bC,D5,or_false] at hp;rcases hp with rfl | rfl
  ·exact h.first
  ·exact h.acc
 refine J3 Gy.1 ?_ (λb o hb=>hb) ?_
 ·intro id o ho
  obtain ⟨c,rfl,hm,hle⟩:=Gy.2 id o ho;exact ⟨hle,c,rfl,tb _ hm⟩
 ·intro p hp
  obtain ⟨cs,elem,fr,h1,h2⟩:=tb p hp;exact ⟨cs,elem,fr,h1,h2⟩
def jG:Option (AV×au)->Bool | some (.b true,_)=>true | _=>false
theorem V6 {x:Option (AV×au)} (h:jG x=true):∃σ',x=some (.b true,σ'):=by
 unfold jG at h;split at h
 ·exact ⟨_,rfl⟩
 ·cases h
/-- A run of the evaluator that says true: what the call does. -/
theorem aun {pl:List (FuncId×dR)} (hpl:∀p∈pl,dS Tryz.prog p.1 p.2) {f:FuncId} {fn:Func} {n:Nat} {args:List AV} {vs:List Value} {W:World} (hf:Tryz.prog.funcs[f]? = some fn) (hc:fn.body.isSome=true) (hrun:jG (call pl n f args σ0)=true)
 (hT:Tabs W) (hv:aA (η0 W) args vs):Calls Tryz.prog f ⟨vs⟩ W λe W'=>e=.returned (.bool true)/\Kept W W':=by
 obtain ⟨σ',hs⟩:=V6 hrun;obtain ⟨c,hc⟩:=agA.1 hc;refine Calls.mono' (amn (KC hpl n) names hf hc hs (atB hT) hv atD) ?_;rintro e W' ⟨v,rfl,⟨η',hr⟩,hk⟩
 simp only [VR] at hr;exact ⟨by rw [hr],hk⟩
/-- A closed call that the evaluator has run to true: from now on one step. -/
abbrev closed (f:FuncId):FuncId×dR:=(f,FT)
theorem kJ {pl:List (FuncId×dR)} (hpl:∀p∈pl,dS Tryz.prog p.1 p.2) {f:FuncId} {n:Nat} (hrun:jG (call pl n f [] σ0)=true):∀p∈closed f::pl,dS Tryz.prog p.1 p.2:=by
 obtain ⟨σ',hs⟩:=V6 hrun;intro p hp;rcases bC.1 hp with rfl | hp
 ·exact aop (KC hpl n) Gy hs
 ·exact hpl p hp
/-- A world for the witness: both tables hold what their initialisers lay. -/
def lay (c:Array Value):Obj->Obj
 | .cells _ t frozen=>.cells c t frozen
 | o=>o
noncomputable def laidWorld (os:Os):World:=
 { World.holding Tryz.prog os ⟨#[], #[],[]⟩ with heap:=((World.holding Tryz.prog os ⟨#[], #[],[]⟩).heap.modify 0 (lay (Go.Pinned.utf8FirstZ.map λx=>Value.int .u8 (Int.ofNat x)).toArray)).modify 1 (lay ((List.range (2 * 16)).map λj=>Value.int .u8 (Om j)).toArray) }
end Go.Proofs.YtilkjidelblkfaaGreatDoor
