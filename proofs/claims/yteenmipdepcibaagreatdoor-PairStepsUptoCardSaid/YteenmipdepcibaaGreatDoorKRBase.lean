/- The evaluator over this program: its prims, its tables, its start. -/
import Derived.Test.YteenmipdepcibaaGreatDoorAbsH
import GoSem.PinnedTables
import Derived.Stop.LaidErr
import Derived.Test.YteenmipdepcibaaGreatDoorCards
import Derived.Test.YteenmipdepcibaaGreatDoorTie
import Derived.ProofKit
import Derived.OpenShut
import Derived.Deep.DeepHandedRow
namespace Go.Proofs.YteenmipdepcibaaGreatDoor
open Go.ChangeShapes Go.WideShapes Go.ChangeAt Go.RowKit Go.aN
set_option maxRecDepth 100000
theorem own:ownKnob Tryz.prog.godebug=none:=by kernel_rfl
theorem mixed:Tryz.prog.follows .mixedOrders=true:=by kernel_rfl
theorem aui:(Tryz.prog.funcs.toList.all λfn=>fn.body.isNone || !(fn.name == "runtime.NumGoroutine"))=true:=by kernel_rfl
theorem names:vI Tryz.prog:=by
 intro f fn c hf hc;have hm:fn∈Tryz.prog.funcs.toList:=by rw[qh]at hf;obtain⟨_,rfl⟩:=hf;simp
 have:=List.all_eq_true.1 aui fn hm;simpa[hc]using this
noncomputable def KI:Q3:=(Go.Pinned.utf8FirstZ.map Int.ofNat).map λz=>AV.i .u8 z
def akb:Q2:=[128,191,160,191,128,159,144,191,128,143]
def Q7(k:Nat):Int:=(akb.getD k 0:Nat)
noncomputable def Gn:Q3:=(List.range (2*16)).map λj=>.i .u8 (Q7 j)
noncomputable def bU:Qt:=[(0,KI),(1,Gn)]
noncomputable instance:aH:={nodes:=[],dec:=[],tabs:=bU,I:=λ_ _=>none,val:=λ_=>none,qE:=by intro n nd h;simp at h,Ak:=by intro n b h;simp at h}
theorem x93:Ext Tryz.prog 93 Extern.AbiNoEscape.same:=Ext.mk' Tryz.func93 (by kernel_rfl) (by kernel_rfl) (by kernel_rfl) (by kernel_rfl)
theorem ajL:Ext Tryz.prog 198 Extern.BytealgCompare.compare:=Ext.mk' Tryz.func198 (by kernel_rfl) (by kernel_rfl) (by kernel_rfl) (by kernel_rfl)
theorem aA6:Ext Tryz.prog 286 (λargs=>Extern.ReflectliteValue.unpack (args.getD 0 (.tuple #[]))):=Ext.mk' Tryz.func286 (by kernel_rfl) (by kernel_rfl) (by kernel_rfl) (by kernel_rfl)
theorem aA8:Ext Tryz.prog 288 (Extern.ReflectliteValue.method (Extern.ReflectliteValue.valueError "reflectlite.Value.Len" 0) Extern.ReflectliteValue.len):=Ext.mk' Tryz.func288 (by kernel_rfl) (by kernel_rfl) (by kernel_rfl) (by kernel_rfl)
theorem aA7:Ext Tryz.prog 287 (Extern.ReflectliteSwapper.swapper "internal/reflectlite" (Extern.ReflectliteValue.valueError "Swapper")):=Ext.mk' Tryz.func287 (by kernel_rfl) (by kernel_rfl) (by kernel_rfl) (by kernel_rfl)
theorem aA9:Ext Tryz.prog 294 (Extern.ReflectliteSwapper.swap true):=Ext.mk' Tryz.func294 (by kernel_rfl) (by kernel_rfl) (by kernel_rfl) (by kernel_rfl)
theorem aBa:Ext Tryz.prog 295 (Extern.ReflectliteSwapper.swap true):=Ext.mk' Tryz.func295 (by kernel_rfl) (by kernel_rfl) (by kernel_rfl) (by kernel_rfl)
theorem aBb:Ext Tryz.prog 296 (Extern.ReflectliteSwapper.swap true):=Ext.mk' Tryz.func296 (by kernel_rfl) (by kernel_rfl) (by kernel_rfl) (by kernel_rfl)
theorem aBd:Ext Tryz.prog 297 (Extern.ReflectliteSwapper.swap true):=Ext.mk' Tryz.func297 (by kernel_rfl) (by kernel_rfl) (by kernel_rfl) (by kernel_rfl)
theorem aBe:Ext Tryz.prog 298 (Extern.ReflectliteSwapper.swap true):=Ext.mk' Tryz.func298 (by kernel_rfl) (by kernel_rfl) (by kernel_rfl) (by kernel_rfl)
theorem aBf:Ext Tryz.prog 299 (Extern.ReflectliteSwapper.swap true):=Ext.mk' Tryz.func299 (by kernel_rfl) (by kernel_rfl) (by kernel_rfl) (by kernel_rfl)
theorem aBg:Ext Tryz.prog 300 (Extern.ReflectliteSwapper.swap false):=Ext.mk' Tryz.func300 (by kernel_rfl) (by kernel_rfl) (by kernel_rfl) (by kernel_rfl)
theorem ajM:Ext Tryz.prog 212 add64Entry:=Ext.mk' Tryz.func212 (by kernel_rfl) (by kernel_rfl) (by kernel_rfl) (by kernel_rfl)
def abh:YY:=[(1,292),(2,293),(4,295),(9,300)]
theorem azV:acG Tryz.prog abh:=by intro p hp;simp only[abh,bG,F9,or_false]at hp;rcases hp with rfl|rfl|rfl|rfl<;>kernel_rfl
noncomputable def U5:W1:=
 [(93,Px),(198,ZW),(286,Z5 Tryz.prog),(288,ZX Tryz.prog),(287,Z4 Tryz.prog abh),
  (294,Du Tryz.prog),(295,Du Tryz.prog),(296,Du Tryz.prog),(297,Du Tryz.prog),(298,Du Tryz.prog),(299,Du Tryz.prog),(300,Du Tryz.prog),(212,ZU)]
theorem avO:∀p∈U5,dN Tryz.prog p.1 p.2:=by
 intro p hp;simp only[U5,bG,F9,or_false]at hp;rcases hp with rfl|rfl|rfl|rfl|rfl|rfl|rfl|rfl|rfl|rfl|rfl|rfl|rfl
 ·exact ahj x93
 ·exact auV ajL
 ·exact au0 aA6
 ·exact auX aA8
 ·exact auZ aA7 azV
 ·exact I4 aA9
 ·exact I4 aBa
 ·exact I4 aBb
 ·exact I4 aBd
 ·exact I4 aBe
 ·exact I4 aBf
 ·exact I4 aBg
 ·exact auR ajM
noncomputable def call (pl:W1) (n:Nat):Caller:=acM Tryz.prog (Xe Tryz.prog) (aaH pl) n
theorem Kt{pl:W1}(h:∀p∈pl,dN Tryz.prog p.1 p.2)(n:Nat):qH Tryz.prog (call pl n):=aj7 (aej mixed) (ahR h) names n
theorem ae8:Tryz.prog.globalNamed "unicode/utf8.first" =some 0:=by kernel_rfl
theorem aq8:(Tryz.prog.globals[0]?).map (·.type)=some 206:=by kernel_rfl
theorem aAD:Tryz.prog.underlying 206=some (.array 256 5):=by kernel_rfl
theorem abz:Tryz.prog.underlying 5=some (.int .u8):=by kernel_rfl
theorem ak8:Tryz.prog.cellsOf 206=256:=by kernel_rfl
theorem cellsE:Tryz.prog.cellsOf 5=1:=by kernel_rfl
theorem firstData:Go.Pinned.utf8First=Lib.tabData .u8 (Go.Pinned.utf8FirstZ.map Int.ofNat):=by kernel_rfl
theorem aq6:Tryz.prog.globalNamed "unicode/utf8.acceptRanges" =some 1:=by kernel_rfl
theorem aq7:(Tryz.prog.globals[1]?).map (·.type)=some 209:=by kernel_rfl
theorem ak4:Tryz.prog.cellsOf 209=2*16:=by kernel_rfl
theorem ak7:Tryz.prog.cellsOf 207=2:=by kernel_rfl
theorem aj9:(Rows.laid_unicode_utf8_acceptRanges:DataW Unit)=Z7 .u8 16 Q7:=by kernel_rfl
structure Tabs(W:World):Prop where
 first:TabAt W 0 KI
 acc:TabAt W 1 Gn
abbrev agf:List (String×DataW Unit):=[("unicode/utf8.acceptRanges",Rows.laid_unicode_utf8_acceptRanges),("unicode/utf8.first",Rows.laid_unicode_utf8_first)]
theorem tabs{W:World}(h:laidMetH Tryz.prog agf W):Tabs W:=by
 have h':laidMet Tryz.prog agf W:=h;have h2:=laidMet.tail h';rw[show Rows.laid_unicode_utf8_first=Lib.tabData .u8 (Go.Pinned.utf8FirstZ.map Int.ofNat)from firstData]at h2;refine⟨aAc (Lib.tabIs_of_head (rest:=[]) ae8 aq8 aAD abz cellsE ak8 h2) ae8,?_⟩;have h3:Lib.VarReads Tryz.prog W "unicode/utf8.acceptRanges" (Z7 .u8 16 Q7):=by rw[<-aj9];exact Lib.laidMet.reads h' (by simp)
 exact aAd h3 aq6 aq7 Tryz.underlying209 Tryz.underlying207 (λm fl hm=>by
  match m,hm with
  |0,hm=>simp at hm;subst hm;exact⟨abz,rfl,cellsE⟩
  |1,hm=>simp at hm;subst hm;exact⟨abz,rfl,cellsE⟩
  |m+2,hm=>simp at hm) rfl ak7 ak4
noncomputable def J0:aA:={h:=(Tr.nil.set 0 (some (.cells KI 0 false false))).set 1 (some (.cells Gn 0 false false)),next:=40,lock:=0}
theorem aBp{id:Nat}{o:bn}(h:J0.get id=some o):(id=0/\o=.cells KI 0 false false)\/(id=1/\o=.cells Gn 0 false false):=by
 have h':=(Tr.vY (Tr.nil.set 0 (some (bn.cells KI 0 false false))) 1 id (some (bn.cells Gn 0 false false))).symm.trans h;split at h'
 ·next e=>cases h';exact .inr ⟨e,rfl⟩
 ·rw[Tr.vY]at h';split at h'
  ·next e=>cases h';exact .inl ⟨e,rfl⟩
  ·rw[Tr.get_nil]at h';cases h'
theorem ZE:Tryz.prog.globals.size=3:=by kernel_rfl
theorem FY:yR J0 Tryz.prog.globals.size:=by
 refine⟨by rw[ZE];decide,λid o ho=>?_⟩;rw[ZE];rcases aBp ho with⟨rfl,rfl⟩|⟨rfl,rfl⟩
 ·exact⟨_,rfl,by simp[aH.tabs,bU],by decide⟩
 ·exact⟨_,rfl,by simp[aH.tabs,bU],by decide⟩
theorem aBq:∀id o,J0.get id=some o->o.own=false:=FY.own
noncomputable abbrev F0 (W:World):Env:=uO Tryz.prog.globals.size J0 λb=>W.heap[b]?
theorem aBo{W:World}(h:Tabs W):SR Tryz.prog (F0 W) J0 W:=by
 have tb:∀p∈(aH.tabs:Qt),TabAt W p.1 p.2:=by
  intro p hp;simp only[aH.tabs,bU,bG,F9,or_false]at hp;rcases hp with rfl|rfl
  ·exact h.first
  ·exact h.acc
 refine JW FY.1 ?_ (λb o hb=>hb) ?_
 ·intro id o ho;obtain⟨c,rfl,hm,hle⟩:=FY.2 id o ho;exact⟨hle,c,rfl,tb _ hm⟩
 ·intro p hp;obtain⟨cs,elem,fr,h1,h2⟩:=tb p hp;exact⟨cs,elem,fr,h1,h2⟩
def jP:Wb->Bool|some (.b true,_)=>true|_=>false
theorem Zb{x:Wb}(h:jP x=true):∃J',x=some (.b true,J'):=by
 unfold jP at h;split at h
 ·exact⟨_,rfl⟩
 ·cases h
theorem aB0{pl:W1}(hpl:∀p∈pl,dN Tryz.prog p.1 p.2){f:FuncId}{fn:Func}{n:Nat}{args:Q3}{vs:Q6}{W:World}(hf:Tryz.prog.funcs[f]? =some fn)(hc:fn.body.isSome=true)(hrun:jP (call pl n f args J0)=true)
 (hT:Tabs W) (hv:aC (F0 W) args vs):Calls Tryz.prog f ⟨vs⟩ W λe W'=>e=.returned (.bool true)/\Kept W W':=by
 obtain⟨J',hs⟩:=Zb hrun;obtain⟨c,hc⟩:=ajZ.1 hc;refine Calls.mono' (asE (Kt hpl n) names hf hc hs (aBo hT) hv aBq) ?_;rintro e W' ⟨v,rfl,⟨F',hr⟩,hk⟩
 simp only[VR]at hr;exact⟨by rw[hr],hk⟩
abbrev closed(f:FuncId):FuncId×dX:=(f,IZ)
theorem kZ{pl:W1}(hpl:∀p∈pl,dN Tryz.prog p.1 p.2){f:FuncId}{n:Nat}(hrun:jP (call pl n f [] J0)=true):∀p∈closed f::pl,dN Tryz.prog p.1 p.2:=by
 obtain⟨J',hs⟩:=Zb hrun;intro p hp;rcases bG.1 hp with rfl|hp
 ·exact auU (Kt hpl n) FY hs
 ·exact hpl p hp
def lay(c:QQ):Obj->Obj
 |.cells _ t frozen=>.cells c t frozen
 |o=>o
noncomputable def laidWorld (os:Os):World:=
 {World.holding Tryz.prog os ⟨#[],#[],[]⟩with heap:=((World.holding Tryz.prog os ⟨#[],#[],[]⟩).heap.modify 0 (lay (Go.Pinned.utf8FirstZ.map λx=>Value.int .u8 (Int.ofNat x)).toArray)).modify 1 (lay ((List.range (2*16)).map λj=>Value.int .u8 (Q7 j)).toArray)}
