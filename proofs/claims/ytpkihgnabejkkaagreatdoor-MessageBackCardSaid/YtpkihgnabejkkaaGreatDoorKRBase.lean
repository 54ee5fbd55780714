/- The evaluator over this program: its prims, its tables, its start. -/
import Derived.Test.YtpkihgnabejkkaaGreatDoorAbsH
import GoSem.PinnedTables
import Derived.Stop.LaidErr
import Derived.Test.YtpkihgnabejkkaaGreatDoorCards
import Derived.Test.YtpkihgnabejkkaaGreatDoorTie
import Derived.ProofKit
import Derived.OpenShut
import Derived.Deep.DeepHandedRow
namespace Go.Proofs.YtpkihgnabejkkaaGreatDoor
open Go.ChangeShapes Go.WideShapes Go.ChangeAt Go.RowKit Go.aJ
set_option maxRecDepth 100000
theorem own:ownKnob Tryz.prog.godebug=none:=by kernel_rfl
theorem mixed:Tryz.prog.follows .mixedOrders=true:=by kernel_rfl
theorem ahN:(Tryz.prog.funcs.toList.all fun fn=>fn.body.isNone || !(fn.name == "runtime.NumGoroutine"))=true:=by kernel_rfl
theorem names:pY Tryz.prog:=by
 intro f fn c hf hc
 have hm:fn∈Tryz.prog.funcs.toList:=by
  rw [Array.getElem?_eq_some_iff] at hf
  obtain ⟨_,rfl⟩:=hf
  simp
 have:=List.all_eq_true.1 ahN fn hm
 simpa [hc] using this
noncomputable def AA:List AV:=(Go.Pinned.utf8FirstZ.map Int.ofNat).map fun z=>AV.i .u8 z
def acC:List Nat:=[128,191,160,191,128,159,144,191,128,143]
def Fj (k:Nat):Int:=(acC.getD k 0:Nat)
noncomputable def yc:List AV:=(List.range (2 * 16)).map fun j=>.i .u8 (Fj j)
/-- The row's two tables. -/
noncomputable def aI:List (Nat×List AV):=[(0,AA),(1,yc)]
noncomputable instance:aB:={ nodes:=[],dec:=[],tabs:=aI,I:=fun _ _=>none,val:=fun _=>none,lJ:=by intro n nd h;simp at h,sD:=by intro n b h;simp at h }
theorem acu:Ext Tryz.prog 149 Extern.AbiNoEscape.same:=Ext.mk' Tryz.func149 (by kernel_rfl) (by kernel_rfl) (by kernel_rfl) (by kernel_rfl)
theorem amY:Ext Tryz.prog 176 Extern.BytealgCompare.compare:=Ext.mk' Tryz.func176 (by kernel_rfl) (by kernel_rfl) (by kernel_rfl) (by kernel_rfl)
theorem amZ:Ext Tryz.prog 186 (fun args=>Extern.ReflectliteValue.unpack (args.getD 0 (.tuple #[]))):=Ext.mk' Tryz.func186 (by kernel_rfl) (by kernel_rfl) (by kernel_rfl) (by kernel_rfl)
theorem am1:Ext Tryz.prog 188 (Extern.ReflectliteValue.method (Extern.ReflectliteValue.valueError "reflectlite.Value.Len" 0) Extern.ReflectliteValue.len):=Ext.mk' Tryz.func188 (by kernel_rfl) (by kernel_rfl) (by kernel_rfl) (by kernel_rfl)
theorem am0:Ext Tryz.prog 187 (Extern.ReflectliteSwapper.swapper "internal/reflectlite" (Extern.ReflectliteValue.valueError "Swapper")):=Ext.mk' Tryz.func187 (by kernel_rfl) (by kernel_rfl) (by kernel_rfl) (by kernel_rfl)
theorem am2:Ext Tryz.prog 194 (Extern.ReflectliteSwapper.swap true):=Ext.mk' Tryz.func194 (by kernel_rfl) (by kernel_rfl) (by kernel_rfl) (by kernel_rfl)
theorem am3:Ext Tryz.prog 195 (Extern.ReflectliteSwapper.swap true):=Ext.mk' Tryz.func195 (by kernel_rfl) (by kernel_rfl) (by kernel_rfl) (by kernel_rfl)
theorem am4:Ext Tryz.prog 196 (Extern.ReflectliteSwapper.swap true):=Ext.mk' Tryz.func196 (by kernel_rfl) (by kernel_rfl) (by kernel_rfl) (by kernel_rfl)
theorem am5:Ext Tryz.prog 197 (Extern.ReflectliteSwapper.swap true):=Ext.mk' Tryz.func197 (by kernel_rfl) (by kernel_rfl) (by kernel_rfl) (by kernel_rfl)
theorem am6:Ext Tryz.prog 198 (Extern.ReflectliteSwapper.swap true):=Ext.mk' Tryz.func198 (by kernel_rfl) (by kernel_rfl) (by kernel_rfl) (by kernel_rfl)
theorem am7:Ext Tryz.prog 199 (Extern.ReflectliteSwapper.swap true):=Ext.mk' Tryz.func199 (by kernel_rfl) (by kernel_rfl) (by kernel_rfl) (by kernel_rfl)
theorem am8:Ext Tryz.prog 200 (Extern.ReflectliteSwapper.swap false):=Ext.mk' Tryz.func200 (by kernel_rfl) (by kernel_rfl) (by kernel_rfl) (by kernel_rfl)
/-- Which function exchanges two elements: by the elements' kind. -/
def Pj:List (Nat×FuncId):=[(1,192),(2,193),(4,195),(9,200)]
theorem alB:Qi Tryz.prog Pj:=by
 intro p hp
 simp only [Pj,List.mem_cons,List.mem_nil_iff,or_false] at hp
 rcases hp with rfl | rfl | rfl | rfl<;>kernel_rfl
noncomputable def Ia:List (FuncId×dV):=
 [(149,Ei),(176,N7),(186,Oa Tryz.prog),(188,N8 Tryz.prog),(187,N9 Tryz.prog Pj),
  (194,uY Tryz.prog),(195,uY Tryz.prog),(196,uY Tryz.prog),(197,uY Tryz.prog),(198,uY Tryz.prog),(199,uY Tryz.prog),(200,uY Tryz.prog)]
theorem aiH:∀p∈Ia,dR Tryz.prog p.1 p.2:=by
 intro p hp
 simp only [Ia,List.mem_cons,List.mem_nil_iff,or_false] at hp
 rcases hp with rfl | rfl | rfl | rfl | rfl | rfl | rfl | rfl | rfl | rfl | rfl | rfl
 ·exact aav acu
 ·exact aic amY
 ·exact aij amZ
 ·exact aie am1
 ·exact aii am0 alB
 ·exact zi am2
 ·exact zi am3
 ·exact zi am4
 ·exact zi am5
 ·exact zi am6
 ·exact zi am7
 ·exact zi am8
noncomputable def call (pl:List (FuncId×dV)) (n:Nat):Caller:=Qk Tryz.prog (EW Tryz.prog) (OH pl) n
theorem Dh {pl:List (FuncId×dV)} (h:∀p∈pl,dR Tryz.prog p.1 p.2) (n:Nat):l7 Tryz.prog (call pl n):=acz (XO mixed) (aaA h) names n
/-! ### The tables -/
theorem YQ:Tryz.prog.globalNamed "unicode/utf8.first" = some 0:=by kernel_rfl
theorem afp:(Tryz.prog.globals[0]?).map (·.type)=some 245:=by kernel_rfl
theorem amM:Tryz.prog.underlying 245=some (.array 256 5):=by kernel_rfl
theorem PK:Tryz.prog.underlying 5=some (.int .u8):=by kernel_rfl
theorem adb:Tryz.prog.cellsOf 245=256:=by kernel_rfl
theorem cellsE:Tryz.prog.cellsOf 5=1:=by kernel_rfl
theorem firstData:Go.Pinned.utf8First=Lib.tabData .u8 (Go.Pinned.utf8FirstZ.map Int.ofNat):=by kernel_rfl
theorem afn:Tryz.prog.globalNamed "unicode/utf8.acceptRanges" = some 1:=by kernel_rfl
theorem afo:(Tryz.prog.globals[1]?).map (·.type)=some 248:=by kernel_rfl
theorem ac6:Tryz.prog.cellsOf 248=2 * 16:=by kernel_rfl
theorem ada:Tryz.prog.cellsOf 246=2:=by kernel_rfl
theorem acB:(Rows.laid_unicode_utf8_acceptRanges:DataW Unit)=Ob .u8 16 Fj:=by kernel_rfl
structure Tabs (W:World):Prop where
 first:TabAt W 0 AA
 acc:TabAt W 1 yc
abbrev Zr:List (String×DataW Unit):=[("unicode/utf8.acceptRanges", Rows.laid_unicode_utf8_acceptRanges),("unicode/utf8.first", Rows.laid_unicode_utf8_first)]
theorem tabs {W:World} (h:laidMetH Tryz.prog Zr W):Tabs W:=by
 have h':laidMet Tryz.prog Zr W:=h
 have h2:=laidMet.tail h'
 rw [show Rows.laid_unicode_utf8_first=Lib.tabData .u8 (Go.Pinned.utf8FirstZ.map Int.ofNat) from firstData] at h2
 refine ⟨al6 (Lib.tabIs_of_head (rest:=[]) YQ afp amM PK cellsE adb h2) YQ, ?_⟩
 have h3:Lib.VarReads Tryz.prog W "unicode/utf8.acceptRanges" (Ob .u8 16 Fj):=by rw [← acB];exact Lib.laidMet.reads h' (by simp)
 exact al7 h3 afn afo Tryz.underlying248 Tryz.underlying246 (fun m fl hm=>by
  match m,hm with
  | 0,hm=>simp at hm;subst hm;exact ⟨PK,rfl,cellsE⟩
  | 1,hm=>simp at hm;subst hm;exact ⟨PK,rfl,cellsE⟩
  | m+2,hm=>simp at hm) rfl ada ac6
noncomputable def σ0:ah:={ h:=(Tr.nil.set 0 (some (.cells AA 0 false false))).set 1 (some (.cells yc 0 false false)),next:=40,lock:=0 }
theorem ani {id:Nat} {o:aX} (h:σ0.get id=some o):(id=0∧o=.cells AA 0 false false)∨(id=1∧o=.cells yc 0 false false):=by
 have h':=(Tr.oN (Tr.nil.set 0 (some (aX.cells AA 0 false false))) 1 id (some (aX.cells yc 0 false false))).symm.trans h
 split at h'
 ·next e=>cases h';exact .inr ⟨e,rfl⟩
 ·rw [Tr.oN] at h'
  split at h'
  ·next e=>cases h';exact .inl ⟨e,rfl⟩
  ·rw [Tr.get_nil] at h';cases h'
theorem NH:Tryz.prog.globals.size=3:=by kernel_rfl
theorem zL:rQ σ0 Tryz.prog.globals.size:=by
 refine ⟨by rw [NH];decide,fun id o ho=>?_⟩
 rw [NH]
 rcases ani ho with ⟨rfl,rfl⟩ | ⟨rfl,rfl⟩
 ·exact ⟨_,rfl,by simp [aB.tabs,aI],by decide⟩
 ·exact ⟨_,rfl,by simp [aB.tabs,aI],by decide⟩
theorem anj:∀id o,σ0.get id=some o→o.own=false:=zL.own
/-- The start: all that stands in the world is frozen. -/
noncomputable abbrev η0 (W:World):Env:=pJ Tryz.prog.globals.size σ0 fun b=>W.heap[b]?
theorem anh {W:World} (h:Tabs W):SR Tryz.prog (η0 W) σ0 W:=by
 have tb:∀p∈(aB.tabs:List (Nat×List AV)),TabAt W p.1 p.2:=by
  intro p hp
  simp only [aB.tabs,aI,List.mem_cons,List.mem_nil_iff,or_false] at hp
  rcases hp with rfl | rfl
  ·exact h.first
  ·exact h.acc
 refine CJ zL.1 ?_ (fun b o hb=>hb) ?_
 ·intro id o ho
  obtain ⟨c,rfl,hm,hle⟩:=zL.2 id o ho
  exact ⟨hle,c,rfl,tb _ hm⟩
 ·intro p hp
  obtain ⟨cs,elem,fr,h1,h2⟩:=tb p hp
  exact ⟨cs,elem,fr,h1,h2⟩
def jX:Option (AV×ah)→Bool | some (.b true,_)=>true | _=>false
theorem MZ {x:Option (AV×ah)} (h:jX x=true):∃σ',x=some (.b true,σ'):=by
 unfold jX at h
 split at h
 ·exact ⟨_,rfl⟩
 ·cases h
/-- A run of the evaluator that says true: what the call does. -/
theorem anW {pl:List (FuncId×dV)} (hpl:∀p∈pl,dR Tryz.prog p.1 p.2) {f:FuncId} {fn:Func} {n:Nat} {args:List AV} {vs:List Value} {W:World} (hf:Tryz.prog.funcs[f]? = some fn) (hc:fn.body.isSome=true) (hrun:jX (call pl n f args σ0)=true)
 (hT:Tabs W) (hv:aj (η0 W) args vs):Calls Tryz.prog f ⟨vs⟩ W fun e W'=>e=.returned (.bool true)∧Kept W W':=by
 obtain ⟨σ',hs⟩:=MZ hrun
 obtain ⟨c,hc⟩:=Option.isSome_iff_exists.1 hc
 refine Calls.mono' (agO (Dh hpl n) names hf hc hs (anh hT) hv anj) ?_
 rintro e W' ⟨v,rfl,⟨η',hr⟩,hk⟩
 simp only [VR] at hr
 exact ⟨by rw [hr],hk⟩
/-- A closed call that the evaluator has run to true: from now on one step. -/
abbrev closed (f:FuncId):FuncId×dV:=(f,zh)
theorem lV {pl:List (FuncId×dV)} (hpl:∀p∈pl,dR Tryz.prog p.1 p.2) {f:FuncId} {n:Nat} (hrun:jX (call pl n f [] σ0)=true):∀p∈closed f::pl,dR Tryz.prog p.1 p.2:=by
 obtain ⟨σ',hs⟩:=MZ hrun
 intro p hp
 rcases List.mem_cons.1 hp with rfl | hp
 ·exact aib (Dh hpl n) zL hs
 ·exact hpl p hp
/-- A world for the witness: both tables hold what their initialisers lay. -/
def lay (c:Array Value):Obj→Obj
 | .cells _ t frozen=>.cells c t frozen
 | o=>o
noncomputable def laidWorld (os:Os):World:=
 { World.holding Tryz.prog os ⟨#[], #[],[]⟩ with heap:=((World.holding Tryz.prog os ⟨#[], #[],[]⟩).heap.modify 0 (lay (Go.Pinned.utf8FirstZ.map fun x=>Value.int .u8 (Int.ofNat x)).toArray)).modify 1 (lay ((List.range (2 * 16)).map fun j=>Value.int .u8 (Fj j)).toArray) }
end Go.Proofs.YtpkihgnabejkkaaGreatDoor
