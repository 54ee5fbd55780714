/- The evaluator over this program: its prims, its tables, its start. -/
import Derived.Test.YthchhlenbkefnaaGreatDoorAbsH
import GoSem.PinnedTables
import Derived.Stop.LaidErr
import Derived.Test.YthchhlenbkefnaaGreatDoorCards
import Derived.Test.YthchhlenbkefnaaGreatDoorTie
import Derived.ProofKit
import Derived.OpenShut
import Derived.Deep.DeepHandedRow
namespace Go.Proofs.YthchhlenbkefnaaGreatDoor
open Go.ChangeShapes Go.WideShapes Go.ChangeAt Go.RowKit Go.aN
set_option maxRecDepth 100000
theorem own:ownKnob Tryz.prog.godebug=none:=by kernel_rfl
theorem mixed:Tryz.prog.follows .mixedOrders=true:=by kernel_rfl
theorem ax0:(Tryz.prog.funcs.toList.all λfn=>fn.body.isNone || !(fn.name == "runtime.NumGoroutine"))=true:=by kernel_rfl
theorem names:xK Tryz.prog:=by
 intro f fn c hf hc;have hm:fn∈Tryz.prog.funcs.toList:=by rw[rG]at hf;obtain⟨_,rfl⟩:=hf;simp
 have:=List.all_eq_true.1 ax0 fn hm;simpa[hc]using this
noncomputable def MX:Q3:=(Go.Pinned.utf8FirstZ.map Int.ofNat).map λz=>AV.i .u8 z
def amS:Q2:=[128,191,160,191,128,159,144,191,128,143]
def TV(k:Nat):Int:=(amS.getD k 0:Nat)
noncomputable def IJ:Q3:=(List.range (2*16)).map λj=>.i .u8 (TV j)
def af5:List Int:=[0,1,56,2,57,49,28,3,61,58,42,50,38,29,17,4,62,47,59,36,45,43,51,22,53,39,33,30,24,18,12,5,63,55,48,27,60,41,37,16,46,35,44,21,52,32,23,11,54,26,40,15,34,20,31,10,25,14,19,9,13,8,7,6]
noncomputable def Qb:Q3:=af5.map λz=>AV.i .u8 z
def akk:List Int:=[1,10,100,1000,10000,100000,1000000,10000000,100000000,1000000000,10000000000,100000000000,1000000000000,10000000000000,100000000000000,1000000000000000,10000000000000000,100000000000000000,1000000000000000000,10000000000000000000]
noncomputable def Rn:Q3:=akk.map λz=>AV.i .u64 z
noncomputable def bZ:Qt:=[(0,MX),(1,IJ),(7,Qb),(3,Rn)]
noncomputable instance:aH:={nodes:=[],dec:=[],tabs:=bZ,I:=λ_ _=>none,val:=λ_=>none,sH:=by intro n nd h;simp at h,CO:=by intro n b h;simp at h}
theorem x98:Ext Tryz.prog 98 Extern.AbiNoEscape.same:=Ext.mk' Tryz.func98 (by kernel_rfl) (by kernel_rfl) (by kernel_rfl) (by kernel_rfl)
theorem amw:Ext Tryz.prog 207 Extern.BytealgCompare.compare:=Ext.mk' Tryz.func207 (by kernel_rfl) (by kernel_rfl) (by kernel_rfl) (by kernel_rfl)
theorem aFS:Ext Tryz.prog 242 (λargs=>Extern.ReflectliteValue.unpack (args.getD 0 (.tuple #[]))):=Ext.mk' Tryz.func242 (by kernel_rfl) (by kernel_rfl) (by kernel_rfl) (by kernel_rfl)
theorem aFU:Ext Tryz.prog 244 (Extern.ReflectliteValue.method (Extern.ReflectliteValue.valueError "reflectlite.Value.Len" 0) Extern.ReflectliteValue.len):=Ext.mk' Tryz.func244 (by kernel_rfl) (by kernel_rfl) (by kernel_rfl) (by kernel_rfl)
theorem aFT:Ext Tryz.prog 243 (Extern.ReflectliteSwapper.swapper "internal/reflectlite" (Extern.ReflectliteValue.valueError "Swapper")):=Ext.mk' Tryz.func243 (by kernel_rfl) (by kernel_rfl) (by kernel_rfl) (by kernel_rfl)
theorem aFV:Ext Tryz.prog 288 (Extern.ReflectliteSwapper.swap true):=Ext.mk' Tryz.func288 (by kernel_rfl) (by kernel_rfl) (by kernel_rfl) (by kernel_rfl)
theorem aFW:Ext Tryz.prog 289 (Extern.ReflectliteSwapper.swap true):=Ext.mk' Tryz.func289 (by kernel_rfl) (by kernel_rfl) (by kernel_rfl) (by kernel_rfl)
theorem aFX:Ext Tryz.prog 290 (Extern.ReflectliteSwapper.swap true):=Ext.mk' Tryz.func290 (by kernel_rfl) (by kernel_rfl) (by kernel_rfl) (by kernel_rfl)
theorem aFY:Ext Tryz.prog 291 (Extern.ReflectliteSwapper.swap true):=Ext.mk' Tryz.func291 (by kernel_rfl) (by kernel_rfl) (by kernel_rfl) (by kernel_rfl)
theorem aFZ:Ext Tryz.prog 292 (Extern.ReflectliteSwapper.swap true):=Ext.mk' Tryz.func292 (by kernel_rfl) (by kernel_rfl) (by kernel_rfl) (by kernel_rfl)
theorem aF0:Ext Tryz.prog 293 (Extern.ReflectliteSwapper.swap true):=Ext.mk' Tryz.func293 (by kernel_rfl) (by kernel_rfl) (by kernel_rfl) (by kernel_rfl)
theorem aF1:Ext Tryz.prog 294 (Extern.ReflectliteSwapper.swap false):=Ext.mk' Tryz.func294 (by kernel_rfl) (by kernel_rfl) (by kernel_rfl) (by kernel_rfl)
theorem amv:Ext Tryz.prog 105 add64Entry:=Ext.mk' Tryz.func105 (by kernel_rfl) (by kernel_rfl) (by kernel_rfl) (by kernel_rfl)
theorem aFR:Ext Tryz.prog 237 Extern.BytealgCount.count:=Ext.mk' Tryz.func237 (by kernel_rfl) (by kernel_rfl) (by kernel_rfl) (by kernel_rfl)
theorem aF2:Ext Tryz.prog 326 Extern.BytealgIndexByte.indexByte:=Ext.mk' Tryz.func326 (by kernel_rfl) (by kernel_rfl) (by kernel_rfl) (by kernel_rfl)
theorem xMk:Ext Tryz.prog 342 (Extern.BytealgMakeNoZero.makeNoZero #[3] #[82]):=Ext.mk' Tryz.func342 (by kernel_rfl) (by kernel_rfl) (by kernel_rfl) (by kernel_rfl)
def ac8:XS:=[(1,286),(2,287),(4,289),(9,294)]
theorem aEy:aeA Tryz.prog ac8:=by intro p hp;simp only[ac8,bH,Ir,or_false]at hp;rcases hp with rfl|rfl|rfl|rfl<;>kernel_rfl
noncomputable def Xc:W2:=
 [(98,Ri),(207,abG),(242,abN Tryz.prog),(244,abJ Tryz.prog),(243,abM Tryz.prog ac8),
  (288,EM Tryz.prog),(289,EM Tryz.prog),(290,EM Tryz.prog),(291,EM Tryz.prog),(292,EM Tryz.prog),(293,EM Tryz.prog),(294,EM Tryz.prog),(105,abD),(237,abH),(326,abI),(342,abK 5)]
theorem azI:∀p∈Xc,dO Tryz.prog p.1 p.2:=by
 intro p hp;simp only[Xc,bH,Ir,or_false]at hp;rcases hp with rfl|rfl|rfl|rfl|rfl|rfl|rfl|rfl|rfl|rfl|rfl|rfl|rfl|rfl|rfl|rfl
 ·exact ajD x98
 ·exact ayF amw
 ·exact ayN aFS
 ·exact ayJ aFU
 ·exact ayM aFT aEy
 ·exact Ky aFV
 ·exact Ky aFW
 ·exact Ky aFX
 ·exact Ky aFY
 ·exact Ky aFZ
 ·exact Ky aF0
 ·exact Ky aF1
 ·exact ayA amv
 ·exact ayG aFR
 ·exact ayI aF2
 ·exact ayK xMk (t:=82) rfl (by kernel_rfl) (by decide) (by kernel_rfl)
noncomputable def call (pl:W2) (n:Nat):Caller:=aeG Tryz.prog (YP Tryz.prog) (acy pl) n
theorem MF{pl:W2}(h:∀p∈pl,dO Tryz.prog p.1 p.2)(n:Nat):sO Tryz.prog (call pl n):=amP (ags mixed) (akl h) names n
theorem ahd:Tryz.prog.globalNamed "unicode/utf8.first" =some 0:=by kernel_rfl
theorem auT:(Tryz.prog.globals[0]?).map (·.type)=some 224:=by kernel_rfl
theorem aFh:Tryz.prog.underlying 224=some (.array 256 5):=by kernel_rfl
theorem adt:Tryz.prog.underlying 5=some (.int .u8):=by kernel_rfl
theorem an7:Tryz.prog.cellsOf 224=256:=by kernel_rfl
theorem cellsE:Tryz.prog.cellsOf 5=1:=by kernel_rfl
theorem firstData:Go.Pinned.utf8First=Lib.tabData .u8 (Go.Pinned.utf8FirstZ.map Int.ofNat):=by kernel_rfl
theorem auR:Tryz.prog.globalNamed "unicode/utf8.acceptRanges" =some 1:=by kernel_rfl
theorem auS:(Tryz.prog.globals[1]?).map (·.type)=some 227:=by kernel_rfl
theorem an3:Tryz.prog.cellsOf 227=2*16:=by kernel_rfl
theorem an6:Tryz.prog.cellsOf 225=2:=by kernel_rfl
theorem amR:(Rows.laid_unicode_utf8_acceptRanges:DataW Unit)=abO .u8 16 TV:=by kernel_rfl
theorem ahe:Tryz.prog.globalNamed "math/bits.deBruijn64tab" =some 7:=by kernel_rfl
theorem au5:(Tryz.prog.globals[7]?).map (·.type)=some 469:=by kernel_rfl
theorem aFp:Tryz.prog.underlying 469=some (.array 64 5):=by kernel_rfl
theorem aFc:Tryz.prog.underlying 5=some (.int .u8):=by kernel_rfl
theorem aoZ:Tryz.prog.cellsOf 469=64:=by kernel_rfl
theorem an1:Tryz.prog.cellsOf 5=1:=by kernel_rfl
theorem asn:(Rows.laid_math_bits_deBruijn64tab:DataW Unit)=Lib.tabData .u8 af5:=by kernel_rfl
theorem ahf:Tryz.prog.globalNamed "internal/strconv.uint64pow10" =some 3:=by kernel_rfl
theorem au6:(Tryz.prog.globals[3]?).map (·.type)=some 414:=by kernel_rfl
theorem aFq:Tryz.prog.underlying 414=some (.array 20 22):=by kernel_rfl
theorem aFd:Tryz.prog.underlying 22=some (.int .u64):=by kernel_rfl
theorem ao0:Tryz.prog.cellsOf 414=20:=by kernel_rfl
theorem an2:Tryz.prog.cellsOf 22=1:=by kernel_rfl
theorem aso:(Rows.laid_internal_strconv_uint64pow10:DataW Unit)=Lib.tabData .u64 akk:=by kernel_rfl
structure Tabs(W:World):Prop where
 first:TabAt W 0 MX
 acc:TabAt W 1 IJ
 af4:TabAt W 7 Qb
 pow10:TabAt W 3 Rn
abbrev aiu:List (String×DataW Unit):=[("math/bits.deBruijn32tab",Rows.laid_math_bits_deBruijn32tab),("math/bits.deBruijn64tab",Rows.laid_math_bits_deBruijn64tab),("internal/strconv.uint64pow10",Rows.laid_internal_strconv_uint64pow10),("unicode/utf8.acceptRanges",Rows.laid_unicode_utf8_acceptRanges),("strconv.ErrRange",Rows.laid_strconv_ErrRange),("strconv.ErrSyntax",Rows.laid_strconv_ErrSyntax),("unicode/utf8.first",Rows.laid_unicode_utf8_first)]
theorem tabs{W:World}(h:laidMetH Tryz.prog aiu W):Tabs W:=by
 have h':laidMet Tryz.prog aiu W:=h;have h2:=laidMet.tail (laidMet.tail (laidMet.tail (laidMet.tail (laidMet.tail (laidMet.tail (h'))))));rw[show Rows.laid_unicode_utf8_first=Lib.tabData .u8 (Go.Pinned.utf8FirstZ.map Int.ofNat)from firstData]at h2;have alM:=laidMet.tail (h');rw[asn]at alM;have alN:=laidMet.tail (laidMet.tail (h'));rw[aso]at alN;refine⟨adk (Lib.tabIs_of_head (rest:=[]) ahd auT aFh adt cellsE an7 h2) ahd,?_,adk (Lib.tabIs_of_head ahe au5 aFp aFc an1 aoZ alM) ahe,adk (Lib.tabIs_of_head ahf au6 aFq aFd an2 ao0 alN) ahf⟩;have h3:Lib.VarReads Tryz.prog W "unicode/utf8.acceptRanges" (abO .u8 16 TV):=by rw[<-amR];exact Lib.laidMet.reads h' (by simp)
 exact aEP h3 auR auS Tryz.underlying227 Tryz.underlying225 (λm fl hm=>by
  match m,hm with
  |0,hm=>simp at hm;subst hm;exact⟨adt,rfl,cellsE⟩
  |1,hm=>simp at hm;subst hm;exact⟨adt,rfl,cellsE⟩
  |m+2,hm=>simp at hm) rfl an6 an3
noncomputable def J0:aA:={h:=(((Tr.nil.set 0 (some (.cells MX 0 false false))).set 1 (some (.cells IJ 0 false false))).set 7 (some (.cells Qb 0 false false))).set 3 (some (.cells Rn 0 false false)),next:=40,lock:=0}
theorem aGd{id:Nat}{o:bI}(h:J0.get id=some o):(id=0/\o=.cells MX 0 false false)\/(id=1/\o=.cells IJ 0 false false)\/(id=7/\o=.cells Qb 0 false false)\/(id=3/\o=.cells Rn 0 false false):=by
 have h':Tr.get ((((Tr.nil.set 0 (some (.cells MX 0 false false))).set 1 (some (.cells IJ 0 false false))).set 7 (some (.cells Qb 0 false false))).set 3 (some (.cells Rn 0 false false))) id=some o:=h;rw[Tr.vS]at h';split at h'
 ·next e=>cases h';exact .inr (.inr (.inr (⟨e,rfl⟩)))
 rw[Tr.vS]at h';split at h'
 ·next e=>cases h';exact .inr (.inr (.inl ⟨e,rfl⟩))
 rw[Tr.vS]at h';split at h'
 ·next e=>cases h';exact .inr (.inl ⟨e,rfl⟩)
 rw[Tr.vS]at h';split at h'
 ·next e=>cases h';exact .inl ⟨e,rfl⟩
 rw[Tr.get_nil]at h';cases h'
theorem abm:Tryz.prog.globals.size=8:=by kernel_rfl
theorem Ii:Au J0 Tryz.prog.globals.size:=by
 refine⟨by rw[abm];decide,λid o ho=>?_⟩;rw[abm];rcases aGd ho with⟨rfl,rfl⟩|⟨rfl,rfl⟩|⟨rfl,rfl⟩|⟨rfl,rfl⟩
 ·exact⟨_,rfl,by simp[aH.tabs,bZ],by decide⟩
 ·exact⟨_,rfl,by simp[aH.tabs,bZ],by decide⟩
 ·exact⟨_,rfl,by simp[aH.tabs,bZ],by decide⟩
 ·exact⟨_,rfl,by simp[aH.tabs,bZ],by decide⟩
theorem aGe:∀id o,J0.get id=some o->o.own=false:=Ii.own
noncomputable abbrev F0 (W:World):Env:=wV Tryz.prog.globals.size J0 λb=>W.heap[b]?
theorem aGc{W:World}(h:Tabs W):SR Tryz.prog (F0 W) J0 W:=by
 have tb:∀p∈(aH.tabs:Qt),TabAt W p.1 p.2:=by
  intro p hp;simp only[aH.tabs,bZ,bH,Ir,or_false]at hp;rcases hp with rfl|rfl|rfl|rfl
  ·exact h.first
  ·exact h.acc
  ·exact h.af4
  ·exact h.pow10
 refine LQ Ii.1 ?_ (λb o hb=>hb) ?_
 ·intro id o ho;obtain⟨c,rfl,hm,hle⟩:=Ii.2 id o ho;exact⟨hle,c,rfl,tb _ hm⟩
 ·intro p hp;obtain⟨cs,elem,fr,h1,h2⟩:=tb p hp;exact⟨cs,elem,fr,h1,h2⟩
def jS:We->Bool|some (.b true,_)=>true|_=>false
theorem aaU{x:We}(h:jS x=true):∃J',x=some (.b true,J'):=by
 unfold jS at h;split at h
 ·exact⟨_,rfl⟩
 ·cases h
theorem aGO{pl:W2}(hpl:∀p∈pl,dO Tryz.prog p.1 p.2){f:FuncId}{fn:Func}{n:Nat}{args:Q3}{vs:Q6}{W:World}(hf:Tryz.prog.funcs[f]? =some fn)(hc:fn.body.isSome=true)(hrun:jS (call pl n f args J0)=true)
 (hT:Tabs W) (hv:aC (F0 W) args vs):Calls Tryz.prog f ⟨vs⟩ W λe W'=>e=.returned (.bool true)/\Kept W W':=by
 obtain⟨J',hs⟩:=aaU hrun;obtain⟨c,hc⟩:=amJ.1 hc;refine Calls.mono' (awu (MF hpl n) names hf hc hs (aGc hT) hv aGe) ?_;rintro e W' ⟨v,rfl,⟨F',hr⟩,hk⟩
 simp only[VR]at hr;exact⟨by rw[hr],hk⟩
abbrev closed(f:FuncId):FuncId×dZ:=(f,Kw)
theorem kZ{pl:W2}(hpl:∀p∈pl,dO Tryz.prog p.1 p.2){f:FuncId}{n:Nat}(hrun:jS (call pl n f [] J0)=true):∀p∈closed f::pl,dO Tryz.prog p.1 p.2:=by
 obtain⟨J',hs⟩:=aaU hrun;intro p hp;rcases bH.1 hp with rfl|hp
 ·exact ayE (MF hpl n) Ii hs
 ·exact hpl p hp
def lay(c:QQ):Obj->Obj
 |.cells _ t frozen=>.cells c t frozen
 |o=>o
noncomputable def laidWorld (os:Os):World:=
 {World.holding Tryz.prog os ⟨#[],#[],[]⟩with heap:=((((((((((World.holding Tryz.prog os ⟨#[],#[],[]⟩).heap.modify 0 (lay (Go.Pinned.utf8FirstZ.map λx=>Value.int .u8 (Int.ofNat x)).toArray)).modify 1 (lay ((List.range (2*16)).map λj=>Value.int .u8 (TV j)).toArray)).modify 6 (lay #[.int .u8 0,.int .u8 1,.int .u8 28,.int .u8 2,.int .u8 29,.int .u8 14,.int .u8 24,.int .u8 3,.int .u8 30,.int .u8 22,.int .u8 20,.int .u8 15,.int .u8 25,.int .u8 17,.int .u8 4,.int .u8 8,.int .u8 31,.int .u8 27,.int .u8 13,.int .u8 23,.int .u8 21,.int .u8 19,.int .u8 16,.int .u8 7,.int .u8 26,.int .u8 12,.int .u8 18,.int .u8 6,.int .u8 11,.int .u8 5,.int .u8 10,.int .u8 9])).modify 7 (lay #[.int .u8 0,.int .u8 1,.int .u8 56,.int .u8 2,.int .u8 57,.int .u8 49,.int .u8 28,.int .u8 3,.int .u8 61,.int .u8 58,.int .u8 42,.int .u8 50,.int .u8 38,.int .u8 29,.int .u8 17,.int .u8 4,.int .u8 62,.int .u8 47,.int .u8 59,.int .u8 36,.int .u8 45,.int .u8 43,.int .u8 51,.int .u8 22,.int .u8 53,.int .u8 39,.int .u8 33,.int .u8 30,.int .u8 24,.int .u8 18,.int .u8 12,.int .u8 5,.int .u8 63,.int .u8 55,.int .u8 48,.int .u8 27,.int .u8 60,.int .u8 41,.int .u8 37,.int .u8 16,.int .u8 46,.int .u8 35,.int .u8 44,.int .u8 21,.int .u8 52,.int .u8 32,.int .u8 23,.int .u8 11,.int .u8 54,.int .u8 26,.int .u8 40,.int .u8 15,.int .u8 34,.int .u8 20,.int .u8 31,.int .u8 10,.int .u8 25,.int .u8 14,.int .u8 19,.int .u8 9,.int .u8 13,.int .u8 8,.int .u8 7,.int .u8 6])).modify 3 (lay #[.int .u64 1,.int .u64 10,.int .u64 100,.int .u64 1000,.int .u64 10000,.int .u64 100000,.int .u64 1000000,.int .u64 10000000,.int .u64 100000000,.int .u64 1000000000,.int .u64 10000000000,.int .u64 100000000000,.int .u64 1000000000000,.int .u64 10000000000000,.int .u64 100000000000000,.int .u64 1000000000000000,.int .u64 10000000000000000,.int .u64 100000000000000000,.int .u64 1000000000000000000,.int .u64 10000000000000000000])).modify 5 (lay #[.iface 475 (.pointer (some ⟨(World.holding Tryz.prog os ⟨#[],#[],[]⟩).heap.size+0,0,none⟩))])).modify 4 (lay #[.iface 475 (.pointer (some ⟨(World.holding Tryz.prog os ⟨#[],#[],[]⟩).heap.size+1,0,none⟩))])).push (.cells #[.string ⟨#[118,97,108,117,101,32,111,117,116,32,111,102,32,114,97,110,103,101]⟩] 477 (0,0))).push (.cells #[.string ⟨#[105,110,118,97,108,105,100,32,115,121,110,116,97,120]⟩] 477 (0,0)))}
