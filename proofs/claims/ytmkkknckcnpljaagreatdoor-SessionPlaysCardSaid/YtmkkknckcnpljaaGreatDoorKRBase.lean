/- The evaluator over this program: its prims, its tables, its start. -/
import Derived.Test.YtmkkknckcnpljaaGreatDoorAbsH
import GoSem.PinnedTables
import Derived.Stop.LaidErr
import Derived.Test.YtmkkknckcnpljaaGreatDoorCards
import Derived.Test.YtmkkknckcnpljaaGreatDoorTie
import Derived.ProofKit
import Derived.OpenShut
import Derived.Deep.DeepHandedRow
namespace Go.Proofs.YtmkkknckcnpljaaGreatDoor
open Go.ChangeShapes Go.WideShapes Go.ChangeAt Go.RowKit Go.aO
set_option maxRecDepth 100000
theorem own:ownKnob Tryz.prog.godebug=none:=by kernel_rfl
theorem mixed:Tryz.prog.follows .mixedOrders=true:=by kernel_rfl
theorem avO:(Tryz.prog.funcs.toList.all λfn=>fn.body.isNone || !(fn.name == "runtime.NumGoroutine"))=true:=by kernel_rfl
theorem names:vO Tryz.prog:=by
 intro f fn c hf hc;have hm:fn∈Tryz.prog.funcs.toList:=by rw[qj]at hf;obtain⟨_,rfl⟩:=hf;simp
 have:=List.all_eq_true.1 avO fn hm;simpa[hc]using this
noncomputable def Ld:Q3:=(Go.Pinned.utf8FirstZ.map Int.ofNat).map λz=>AV.i .u8 z
def akK:Q2:=[128,191,160,191,128,159,144,191,128,143]
def Rt(k:Nat):Int:=(akK.getD k 0:Nat)
noncomputable def Hy:Q3:=(List.range (2*16)).map λj=>.i .u8 (Rt j)
noncomputable def bG:Qt:=[(0,Ld),(1,Hy)]
noncomputable instance:aI:={nodes:=[],dec:=[],tabs:=bG,I:=λ_ _=>none,val:=λ_=>none,qI:=by intro n nd h;simp at h,Bg:=by intro n b h;simp at h}
theorem akm:Ext Tryz.prog 206 Extern.AbiNoEscape.same:=Ext.mk' Tryz.func206 (by kernel_rfl) (by kernel_rfl) (by kernel_rfl) (by kernel_rfl)
theorem ako:Ext Tryz.prog 239 Extern.BytealgCompare.compare:=Ext.mk' Tryz.func239 (by kernel_rfl) (by kernel_rfl) (by kernel_rfl) (by kernel_rfl)
theorem aC7:Ext Tryz.prog 332 (λargs=>Extern.ReflectliteValue.unpack (args.getD 0 (.tuple #[]))):=Ext.mk' Tryz.func332 (by kernel_rfl) (by kernel_rfl) (by kernel_rfl) (by kernel_rfl)
theorem aC9:Ext Tryz.prog 334 (Extern.ReflectliteValue.method (Extern.ReflectliteValue.valueError "reflectlite.Value.Len" 0) Extern.ReflectliteValue.len):=Ext.mk' Tryz.func334 (by kernel_rfl) (by kernel_rfl) (by kernel_rfl) (by kernel_rfl)
theorem aC8:Ext Tryz.prog 333 (Extern.ReflectliteSwapper.swapper "internal/reflectlite" (Extern.ReflectliteValue.valueError "Swapper")):=Ext.mk' Tryz.func333 (by kernel_rfl) (by kernel_rfl) (by kernel_rfl) (by kernel_rfl)
theorem aDa:Ext Tryz.prog 340 (Extern.ReflectliteSwapper.swap true):=Ext.mk' Tryz.func340 (by kernel_rfl) (by kernel_rfl) (by kernel_rfl) (by kernel_rfl)
theorem aDb:Ext Tryz.prog 341 (Extern.ReflectliteSwapper.swap true):=Ext.mk' Tryz.func341 (by kernel_rfl) (by kernel_rfl) (by kernel_rfl) (by kernel_rfl)
theorem aDc:Ext Tryz.prog 342 (Extern.ReflectliteSwapper.swap true):=Ext.mk' Tryz.func342 (by kernel_rfl) (by kernel_rfl) (by kernel_rfl) (by kernel_rfl)
theorem aDd:Ext Tryz.prog 343 (Extern.ReflectliteSwapper.swap true):=Ext.mk' Tryz.func343 (by kernel_rfl) (by kernel_rfl) (by kernel_rfl) (by kernel_rfl)
theorem aDe:Ext Tryz.prog 344 (Extern.ReflectliteSwapper.swap true):=Ext.mk' Tryz.func344 (by kernel_rfl) (by kernel_rfl) (by kernel_rfl) (by kernel_rfl)
theorem aDf:Ext Tryz.prog 345 (Extern.ReflectliteSwapper.swap true):=Ext.mk' Tryz.func345 (by kernel_rfl) (by kernel_rfl) (by kernel_rfl) (by kernel_rfl)
theorem aDg:Ext Tryz.prog 346 (Extern.ReflectliteSwapper.swap false):=Ext.mk' Tryz.func346 (by kernel_rfl) (by kernel_rfl) (by kernel_rfl) (by kernel_rfl)
theorem akn:Ext Tryz.prog 230 add64Entry:=Ext.mk' Tryz.func230 (by kernel_rfl) (by kernel_rfl) (by kernel_rfl) (by kernel_rfl)
def abG:X1:=[(1,338),(2,339),(4,341),(9,346)]
theorem aBK:acY Tryz.prog abG:=by intro p hp;simp only[abG,bD,Hf,or_false]at hp;rcases hp with rfl|rfl|rfl|rfl<;>kernel_rfl
noncomputable def Vg:W1:=
 [(206,P6),(239,aap),(332,aat Tryz.prog),(334,aaq Tryz.prog),(333,aas Tryz.prog abG),
  (340,D5 Tryz.prog),(341,D5 Tryz.prog),(342,D5 Tryz.prog),(343,D5 Tryz.prog),(344,D5 Tryz.prog),(345,D5 Tryz.prog),(346,D5 Tryz.prog),(230,aan)]
theorem axh:∀p∈Vg,eY Tryz.prog p.1 p.2:=by
 intro p hp;simp only[Vg,bD,Hf,or_false]at hp;rcases hp with rfl|rfl|rfl|rfl|rfl|rfl|rfl|rfl|rfl|rfl|rfl|rfl|rfl
 ·exact ahr akm
 ·exact awv ako
 ·exact awz aC7
 ·exact aww aC9
 ·exact awy aC8 aBK
 ·exact Jo aDa
 ·exact Jo aDb
 ·exact Jo aDc
 ·exact Jo aDd
 ·exact Jo aDe
 ·exact Jo aDf
 ·exact Jo aDg
 ·exact awr akn
noncomputable def call (pl:W1) (n:Nat):Caller:=ac4 Tryz.prog (Xp Tryz.prog) (aa0 pl) n
theorem Oy{pl:W1}(h:∀p∈pl,eY Tryz.prog p.1 p.2)(n:Nat):rD Tryz.prog (call pl n):=akG (aeE mixed) (ah1 h) names n
theorem afg:Tryz.prog.globalNamed "unicode/utf8.first" =some 0:=by kernel_rfl
theorem as4:(Tryz.prog.globals[0]?).map (·.type)=some 256:=by kernel_rfl
theorem aCv:Tryz.prog.underlying 256=some (.array 256 5):=by kernel_rfl
theorem abV:Tryz.prog.underlying 5=some (.int .u8):=by kernel_rfl
theorem alG:Tryz.prog.cellsOf 256=256:=by kernel_rfl
theorem cellsE:Tryz.prog.cellsOf 5=1:=by kernel_rfl
theorem firstData:Go.Pinned.utf8First=Lib.tabData .u8 (Go.Pinned.utf8FirstZ.map Int.ofNat):=by kernel_rfl
theorem as2:Tryz.prog.globalNamed "unicode/utf8.acceptRanges" =some 1:=by kernel_rfl
theorem as3:(Tryz.prog.globals[1]?).map (·.type)=some 259:=by kernel_rfl
theorem alC:Tryz.prog.cellsOf 259=2*16:=by kernel_rfl
theorem alF:Tryz.prog.cellsOf 257=2:=by kernel_rfl
theorem akJ:(Rows.laid_unicode_utf8_acceptRanges:DataW Unit)=aau .u8 16 Rt:=by kernel_rfl
structure Tabs(W:World):Prop where
 first:TabAt W 0 Ld
 acc:TabAt W 1 Hy
abbrev af2:List (String×DataW Unit):=[("unicode/utf8.acceptRanges",Rows.laid_unicode_utf8_acceptRanges),("unicode/utf8.first",Rows.laid_unicode_utf8_first)]
theorem tabs{W:World}(h:laidMetH Tryz.prog af2 W):Tabs W:=by
 have h':laidMet Tryz.prog af2 W:=h;have h2:=laidMet.tail h';rw[show Rows.laid_unicode_utf8_first=Lib.tabData .u8 (Go.Pinned.utf8FirstZ.map Int.ofNat)from firstData]at h2;refine⟨aB2 (Lib.tabIs_of_head (rest:=[]) afg as4 aCv abV cellsE alG h2) afg,?_⟩;have h3:Lib.VarReads Tryz.prog W "unicode/utf8.acceptRanges" (aau .u8 16 Rt):=by rw[<-akJ];exact Lib.laidMet.reads h' (by simp)
 exact aB3 h3 as2 as3 Tryz.underlying259 Tryz.underlying257 (λm fl hm=>by
  match m,hm with
  |0,hm=>simp at hm;subst hm;exact⟨abV,rfl,cellsE⟩
  |1,hm=>simp at hm;subst hm;exact⟨abV,rfl,cellsE⟩
  |m+2,hm=>simp at hm) rfl alF alC
noncomputable def J0:aA:={h:=(Tr.nil.set 0 (some (.cells Ld 0 false false))).set 1 (some (.cells Hy 0 false false)),next:=40,lock:=0}
theorem aDp{id:Nat}{o:bC}(h:J0.get id=some o):(id=0/\o=.cells Ld 0 false false)\/(id=1/\o=.cells Hy 0 false false):=by
 have h':=(Tr.wP (Tr.nil.set 0 (some (bC.cells Ld 0 false false))) 1 id (some (bC.cells Hy 0 false false))).symm.trans h;split at h'
 ·next e=>cases h';exact .inr ⟨e,rfl⟩
 ·rw[Tr.wP]at h';split at h'
  ·next e=>cases h';exact .inl ⟨e,rfl⟩
  ·rw[Tr.get_nil]at h';cases h'
theorem Z5:Tryz.prog.globals.size=3:=by kernel_rfl
theorem JR:AP J0 Tryz.prog.globals.size:=by
 refine⟨by rw[Z5];decide,λid o ho=>?_⟩;rw[Z5];rcases aDp ho with⟨rfl,rfl⟩|⟨rfl,rfl⟩
 ·exact⟨_,rfl,by simp[aI.tabs,bG],by decide⟩
 ·exact⟨_,rfl,by simp[aI.tabs,bG],by decide⟩
theorem aDq:∀id o,J0.get id=some o->o.own=false:=JR.own
noncomputable abbrev H0 (W:World):Env:=xW Tryz.prog.globals.size J0 λb=>W.heap[b]?
theorem aDo{W:World}(h:Tabs W):SR Tryz.prog (H0 W) J0 W:=by
 have tb:∀p∈(aI.tabs:Qt),TabAt W p.1 p.2:=by
  intro p hp;simp only[aI.tabs,bG,bD,Hf,or_false]at hp;rcases hp with rfl|rfl
  ·exact h.first
  ·exact h.acc
 refine NS JR.1 ?_ (λb o hb=>hb) ?_
 ·intro id o ho;obtain⟨c,rfl,hm,hle⟩:=JR.2 id o ho;exact⟨hle,c,rfl,tb _ hm⟩
 ·intro p hp;obtain⟨cs,elem,fr,h1,h2⟩:=tb p hp;exact⟨cs,elem,fr,h1,h2⟩
def kJ:Wc->Bool|some (.b true,_)=>true|_=>false
theorem Zq{x:Wc}(h:kJ x=true):∃J',x=some (.b true,J'):=by
 unfold kJ at h;split at h
 ·exact⟨_,rfl⟩
 ·cases h
theorem aD2{pl:W1}(hpl:∀p∈pl,eY Tryz.prog p.1 p.2){f:FuncId}{fn:Func}{n:Nat}{args:Q3}{vs:Q6}{W:World}(hf:Tryz.prog.funcs[f]? =some fn)(hc:fn.body.isSome=true)(hrun:kJ (call pl n f args J0)=true)
 (hT:Tabs W) (hv:aF (H0 W) args vs):Calls Tryz.prog f ⟨vs⟩ W λe W'=>e=.returned (.bool true)/\Kept W W':=by
 obtain⟨J',hs⟩:=Zq hrun;obtain⟨c,hc⟩:=akB.1 hc;refine Calls.mono' (aut (Oy hpl n) names hf hc hs (aDo hT) hv aDq) ?_;rintro e W' ⟨v,rfl,⟨H',hr⟩,hk⟩
 simp only[VR]at hr;exact⟨by rw[hr],hk⟩
abbrev closed(f:FuncId):FuncId×fC:=(f,Jm)
theorem l7{pl:W1}(hpl:∀p∈pl,eY Tryz.prog p.1 p.2){f:FuncId}{n:Nat}(hrun:kJ (call pl n f [] J0)=true):∀p∈closed f::pl,eY Tryz.prog p.1 p.2:=by
 obtain⟨J',hs⟩:=Zq hrun;intro p hp;rcases bD.1 hp with rfl|hp
 ·exact awu (Oy hpl n) JR hs
 ·exact hpl p hp
def lay(c:QQ):Obj->Obj
 |.cells _ t frozen=>.cells c t frozen
 |o=>o
noncomputable def laidWorld (os:Os):World:=
 {World.holding Tryz.prog os ⟨#[],#[],[]⟩with heap:=((World.holding Tryz.prog os ⟨#[],#[],[]⟩).heap.modify 0 (lay (Go.Pinned.utf8FirstZ.map λx=>Value.int .u8 (Int.ofNat x)).toArray)).modify 1 (lay ((List.range (2*16)).map λj=>Value.int .u8 (Rt j)).toArray)}
