/- The evaluator over this program: its prims, its tables, its start. -/
import Derived.Test.YtogfeeabnklegaaGreatDoorAbsH
import GoSem.PinnedTables
import Derived.Stop.LaidErr
import Derived.Test.YtogfeeabnklegaaGreatDoorCards
import Derived.Test.YtogfeeabnklegaaGreatDoorTie
import Derived.ProofKit
import Derived.OpenShut
import Derived.Deep.DeepHandedRow
namespace Go.Proofs.YtogfeeabnklegaaGreatDoor
open Go.ChangeShapes Go.WideShapes Go.ChangeAt Go.RowKit Go.aP
set_option maxRecDepth 100000
theorem own:ownKnob Tryz.prog.godebug=none:=by kernel_rfl
theorem mixed:Tryz.prog.follows .mixedOrders=true:=by kernel_rfl
theorem ayh:(Tryz.prog.funcs.toList.all λfn=>fn.body.isNone || !(fn.name == "runtime.NumGoroutine"))=true:=by kernel_rfl
theorem names:yD Tryz.prog:=by
 intro f fn c hf hc;have hm:fn∈Tryz.prog.funcs.toList:=by rw[tH]at hf;obtain⟨_,rfl⟩:=hf;simp
 have:=List.all_eq_true.1 ayh fn hm;simpa[hc]using this
noncomputable def N9:Q3:=(Go.Pinned.utf8FirstZ.map Int.ofNat).map λz=>AV.i .u8 z
def anI:Q2:=[128,191,160,191,128,159,144,191,128,143]
def U2(k:Nat):Int:=(anI.getD k 0:Nat)
noncomputable def Js:Q3:=(List.range (2*16)).map λj=>.i .u8 (U2 j)
noncomputable def dH:QP:=[(0,N9),(1,Js)]
noncomputable instance:aJ:={nodes:=[],dec:=[],tabs:=dH,I:=λ_ _=>none,val:=λ_=>none,uo:=by intro n nd h;simp at h,Dy:=by intro n b h;simp at h}
theorem anh:Ext Tryz.prog 110 Extern.AbiNoEscape.same:=Ext.mk' Tryz.func110 (by kernel_rfl) (by kernel_rfl) (by kernel_rfl) (by kernel_rfl)
theorem ani:Ext Tryz.prog 173 Extern.BytealgCompare.compare:=Ext.mk' Tryz.func173 (by kernel_rfl) (by kernel_rfl) (by kernel_rfl) (by kernel_rfl)
theorem aFP:Ext Tryz.prog 289 (λargs=>Extern.ReflectliteValue.unpack (args.getD 0 (.tuple #[]))):=Ext.mk' Tryz.func289 (by kernel_rfl) (by kernel_rfl) (by kernel_rfl) (by kernel_rfl)
theorem aFR:Ext Tryz.prog 291 (Extern.ReflectliteValue.method (Extern.ReflectliteValue.valueError "reflectlite.Value.Len" 0) Extern.ReflectliteValue.len):=Ext.mk' Tryz.func291 (by kernel_rfl) (by kernel_rfl) (by kernel_rfl) (by kernel_rfl)
theorem aFQ:Ext Tryz.prog 290 (Extern.ReflectliteSwapper.swapper "internal/reflectlite" (Extern.ReflectliteValue.valueError "Swapper")):=Ext.mk' Tryz.func290 (by kernel_rfl) (by kernel_rfl) (by kernel_rfl) (by kernel_rfl)
theorem aFS:Ext Tryz.prog 297 (Extern.ReflectliteSwapper.swap true):=Ext.mk' Tryz.func297 (by kernel_rfl) (by kernel_rfl) (by kernel_rfl) (by kernel_rfl)
theorem aFT:Ext Tryz.prog 298 (Extern.ReflectliteSwapper.swap true):=Ext.mk' Tryz.func298 (by kernel_rfl) (by kernel_rfl) (by kernel_rfl) (by kernel_rfl)
theorem aFU:Ext Tryz.prog 299 (Extern.ReflectliteSwapper.swap true):=Ext.mk' Tryz.func299 (by kernel_rfl) (by kernel_rfl) (by kernel_rfl) (by kernel_rfl)
theorem aFV:Ext Tryz.prog 300 (Extern.ReflectliteSwapper.swap true):=Ext.mk' Tryz.func300 (by kernel_rfl) (by kernel_rfl) (by kernel_rfl) (by kernel_rfl)
theorem aFW:Ext Tryz.prog 301 (Extern.ReflectliteSwapper.swap true):=Ext.mk' Tryz.func301 (by kernel_rfl) (by kernel_rfl) (by kernel_rfl) (by kernel_rfl)
theorem aFX:Ext Tryz.prog 302 (Extern.ReflectliteSwapper.swap true):=Ext.mk' Tryz.func302 (by kernel_rfl) (by kernel_rfl) (by kernel_rfl) (by kernel_rfl)
theorem aFY:Ext Tryz.prog 303 (Extern.ReflectliteSwapper.swap false):=Ext.mk' Tryz.func303 (by kernel_rfl) (by kernel_rfl) (by kernel_rfl) (by kernel_rfl)
theorem x90:Ext Tryz.prog 90 add64Entry:=Ext.mk' Tryz.func90 (by kernel_rfl) (by kernel_rfl) (by kernel_rfl) (by kernel_rfl)
def adO:XS:=[(1,295),(2,296),(4,298),(9,303)]
theorem aEy:afa Tryz.prog adO:=by intro p hp;simp only[adO,bI,Jh,or_false]at hp;rcases hp with rfl|rfl|rfl|rfl<;>kernel_rfl
noncomputable def XP:W4:=
 [(110,SH),(173,acs),(289,acy Tryz.prog),(291,acu Tryz.prog),(290,acw Tryz.prog adO),
  (297,FQ Tryz.prog),(298,FQ Tryz.prog),(299,FQ Tryz.prog),(300,FQ Tryz.prog),(301,FQ Tryz.prog),(302,FQ Tryz.prog),(303,FQ Tryz.prog),(90,acp)]
theorem azP:∀p∈XP,fJ Tryz.prog p.1 p.2:=by
 intro p hp;simp only[XP,bI,Jh,or_false]at hp;rcases hp with rfl|rfl|rfl|rfl|rfl|rfl|rfl|rfl|rfl|rfl|rfl|rfl|rfl
 ·exact akh anh
 ·exact ayY ani
 ·exact ay3 aFP
 ·exact ay0 aFR
 ·exact ay2 aFQ aEy
 ·exact Lp aFS
 ·exact Lp aFT
 ·exact Lp aFU
 ·exact Lp aFV
 ·exact Lp aFW
 ·exact Lp aFX
 ·exact Lp aFY
 ·exact ayU x90
noncomputable def call (pl:W4) (n:Nat):Caller:=afh Tryz.prog (ZA Tryz.prog) (ac8 pl) n
theorem NJ{pl:W4}(h:∀p∈pl,fJ Tryz.prog p.1 p.2)(n:Nat):uz Tryz.prog (call pl n):=anF (agX mixed) (akW h) names n
theorem ahN:Tryz.prog.globalNamed "unicode/utf8.first" =some 0:=by kernel_rfl
theorem avc:(Tryz.prog.globals[0]?).map (·.type)=some 223:=by kernel_rfl
theorem aFi:Tryz.prog.underlying 223=some (.array 256 5):=by kernel_rfl
theorem ad6:Tryz.prog.underlying 5=some (.int .u8):=by kernel_rfl
theorem aoK:Tryz.prog.cellsOf 223=256:=by kernel_rfl
theorem cellsE:Tryz.prog.cellsOf 5=1:=by kernel_rfl
theorem firstData:Go.Pinned.utf8First=Lib.tabData .u8 (Go.Pinned.utf8FirstZ.map Int.ofNat):=by kernel_rfl
theorem ava:Tryz.prog.globalNamed "unicode/utf8.acceptRanges" =some 1:=by kernel_rfl
theorem avb:(Tryz.prog.globals[1]?).map (·.type)=some 226:=by kernel_rfl
theorem aoG:Tryz.prog.cellsOf 226=2*16:=by kernel_rfl
theorem aoJ:Tryz.prog.cellsOf 224=2:=by kernel_rfl
theorem anH:(Rows.laid_unicode_utf8_acceptRanges:DataW Unit)=acz .u8 16 U2:=by kernel_rfl
structure Tabs(W:World):Prop where
 first:TabAt W 0 N9
 acc:TabAt W 1 Js
abbrev ai6:List (String×DataW Unit):=[("unicode/utf8.acceptRanges",Rows.laid_unicode_utf8_acceptRanges),("unicode/utf8.first",Rows.laid_unicode_utf8_first)]
theorem tabs{W:World}(h:laidMetH Tryz.prog ai6 W):Tabs W:=by
 have h':laidMet Tryz.prog ai6 W:=h;have h2:=laidMet.tail h';rw[show Rows.laid_unicode_utf8_first=Lib.tabData .u8 (Go.Pinned.utf8FirstZ.map Int.ofNat)from firstData]at h2;refine⟨aEP (Lib.tabIs_of_head (rest:=[]) ahN avc aFi ad6 cellsE aoK h2) ahN,?_⟩;have h3:Lib.VarReads Tryz.prog W "unicode/utf8.acceptRanges" (acz .u8 16 U2):=by rw[<-anH];exact Lib.laidMet.reads h' aA
 exact aEQ h3 ava avb Tryz.underlying226 Tryz.underlying224 (λm fl hm=>by
  match m,hm with
  |0,hm=>simp at hm;subst hm;exact⟨ad6,rfl,cellsE⟩
  |1,hm=>simp at hm;subst hm;exact⟨ad6,rfl,cellsE⟩
  |m+2,hm=>simp at hm) rfl aoJ aoG
noncomputable def J0:aC:={h:=(Tr.nil.set 0 (some (.cells N9 0 false false))).set 1 (some (.cells Js 0 false false)),next:=40,lock:=0}
theorem aGa{id:Nat}{o:bP}(h:J0.get id=some o):(id=0/\o=.cells N9 0 false false)\/(id=1/\o=.cells Js 0 false false):=by
 have h':=(Tr.yO (Tr.nil.set 0 (some (bP.cells N9 0 false false))) 1 id (some (bP.cells Js 0 false false))).symm.trans h;split at h'
 ·next e=>cases h';exact .inr ⟨e,rfl⟩
 ·rw[Tr.yO]at h';split at h'
  ·next e=>cases h';exact .inl ⟨e,rfl⟩
  ·rw[Tr.get_nil]at h';cases h'
theorem abY:Tryz.prog.globals.size=3:=by kernel_rfl
theorem Jb:BI J0 Tryz.prog.globals.size:=by
 refine⟨by rw[abY];decide,λid o ho=>?_⟩;rw[abY];rcases aGa ho with⟨rfl,rfl⟩|⟨rfl,rfl⟩
 ·exact⟨_,rfl,by simp[aJ.tabs,dH],aV⟩
 ·exact⟨_,rfl,by simp[aJ.tabs,dH],aV⟩
theorem aGb:∀id o,J0.get id=some o->o.own=false:=Jb.own
noncomputable abbrev F0 (W:World):Env:=xM Tryz.prog.globals.size J0 λb=>W.heap[b]?
theorem aF9{W:World}(h:Tabs W):SR Tryz.prog (F0 W) J0 W:=by
 have tb:∀p∈(aJ.tabs:QP),TabAt W p.1 p.2:=by
  intro p hp;simp only[aJ.tabs,dH,bI,Jh,or_false]at hp;rcases hp with rfl|rfl
  ·exact h.first
  ·exact h.acc
 refine Nc Jb.1 ?_ (λb o hb=>hb) ?_
 ·intro id o ho;obtain⟨c,rfl,hm,hle⟩:=Jb.2 id o ho;exact⟨hle,c,rfl,tb _ hm⟩
 ·intro p hp;obtain⟨cs,elem,fr,h1,h2⟩:=tb p hp;exact⟨cs,elem,fr,h1,h2⟩
def jg:Wf->Bool|some (.b true,_)=>true|_=>false
theorem abz{x:Wf}(h:jg x=true):∃J',x=some (.b true,J'):=by
 unfold jg at h;split at h
 ·exact⟨_,rfl⟩
 ·cases h
theorem aGL{pl:W4}(hpl:∀p∈pl,fJ Tryz.prog p.1 p.2){f:FuncId}{fn:Func}{n:Nat}{args:Q3}{vs:Q6}{W:World}(hf:Tryz.prog.funcs[f]? =some fn)(hc:fn.body.isSome=true)(hrun:jg (call pl n f args J0)=true)
 (hT:Tabs W) (hv:aG (F0 W) args vs):Calls Tryz.prog f ⟨vs⟩ W λe W'=>e=.returned (.bool true)/\Kept W W':=by
 obtain⟨J',hs⟩:=abz hrun;obtain⟨c,hc⟩:=anz.1 hc;refine Calls.mono' (awM (NJ hpl n) names hf hc hs (aF9 hT) hv aGb) ?_;rintro e W' ⟨v,rfl,⟨F',hr⟩,hk⟩
 simp only[VR]at hr;exact⟨by rw[hr],hk⟩
abbrev closed(f:FuncId):FuncId×fO:=(f,Lm)
theorem nO{pl:W4}(hpl:∀p∈pl,fJ Tryz.prog p.1 p.2){f:FuncId}{n:Nat}(hrun:jg (call pl n f [] J0)=true):∀p∈closed f::pl,fJ Tryz.prog p.1 p.2:=by
 obtain⟨J',hs⟩:=abz hrun;intro p hp;rcases bI.1 hp with rfl|hp
 ·exact ayX (NJ hpl n) Jb hs
 ·exact hpl p hp
def lay(c:QR):Obj->Obj
 |.cells _ t frozen=>.cells c t frozen
 |o=>o
noncomputable def laidWorld (os:Os):World:=
 {World.holding Tryz.prog os ⟨#[],#[],[]⟩with heap:=((World.holding Tryz.prog os ⟨#[],#[],[]⟩).heap.modify 0 (lay (Go.Pinned.utf8FirstZ.map λx=>Value.int .u8 (Int.ofNat x)).toArray)).modify 1 (lay ((List.range (2*16)).map λj=>Value.int .u8 (U2 j)).toArray)}
