/- The evaluator over this program: its prims, its tables, its start. -/
import Derived.Test.YtboioicpmmipfaaGreatDoorAbsH
import GoSem.PinnedTables
import Derived.Stop.LaidErr
import Derived.Test.YtboioicpmmipfaaGreatDoorCards
import Derived.Test.YtboioicpmmipfaaGreatDoorTie
import Derived.ProofKit
import Derived.OpenShut
import Derived.Deep.DeepHandedRow
namespace Go.Proofs.YtboioicpmmipfaaGreatDoor
open Go.ChangeShapes Go.WideShapes Go.ChangeAt Go.RowKit Go.aP
set_option maxRecDepth 100000
theorem own:ownKnob Tryz.prog.godebug=none:=by kernel_rfl
theorem mixed:Tryz.prog.follows .mixedOrders=true:=by kernel_rfl
theorem ayY:(Tryz.prog.funcs.toList.all λfn=>fn.body.isNone || !(fn.name == "runtime.NumGoroutine"))=true:=by kernel_rfl
theorem names:yG Tryz.prog:=by
 intro f fn c hf hc;have hm:fn∈Tryz.prog.funcs.toList:=by rw[tH]at hf;obtain⟨_,rfl⟩:=hf;simp
 have:=List.all_eq_true.1 ayY fn hm;simpa[hc]using this
noncomputable def NV:Q3:=(Go.Pinned.utf8FirstZ.map Int.ofNat).map λz=>AV.i .u8 z
def an1:Q2:=[128,191,160,191,128,159,144,191,128,143]
def UY(k:Nat):Int:=(an1.getD k 0:Nat)
noncomputable def Ju:Q3:=(List.range (2*16)).map λj=>.i .u8 (UY j)
def agU:List Int:=[0,1,56,2,57,49,28,3,61,58,42,50,38,29,17,4,62,47,59,36,45,43,51,22,53,39,33,30,24,18,12,5,63,55,48,27,60,41,37,16,46,35,44,21,52,32,23,11,54,26,40,15,34,20,31,10,25,14,19,9,13,8,7,6]
noncomputable def QK:Q3:=agU.map λz=>AV.i .u8 z
def ale:List Int:=[1,10,100,1000,10000,100000,1000000,10000000,100000000,1000000000,10000000000,100000000000,1000000000000,10000000000000,100000000000000,1000000000000000,10000000000000000,100000000000000000,1000000000000000000,10000000000000000000]
noncomputable def SN:Q3:=ale.map λz=>AV.i .u64 z
noncomputable def dG:QP:=[(0,NV),(1,Ju),(7,QK),(3,SN)]
noncomputable instance:aJ:={nodes:=[],dec:=[],tabs:=dG,I:=λ_ _=>none,val:=λ_=>none,uq:=by intro n nd h;simp at h,Dw:=by intro n b h;simp at h}
theorem x99:Ext Tryz.prog 99 Extern.AbiNoEscape.same:=Ext.mk' Tryz.func99 (by kernel_rfl) (by kernel_rfl) (by kernel_rfl) (by kernel_rfl)
theorem anE:Ext Tryz.prog 221 Extern.BytealgCompare.compare:=Ext.mk' Tryz.func221 (by kernel_rfl) (by kernel_rfl) (by kernel_rfl) (by kernel_rfl)
theorem aGO:Ext Tryz.prog 321 (λargs=>Extern.ReflectliteValue.unpack (args.getD 0 (.tuple #[]))):=Ext.mk' Tryz.func321 (by kernel_rfl) (by kernel_rfl) (by kernel_rfl) (by kernel_rfl)
theorem aGQ:Ext Tryz.prog 323 (Extern.ReflectliteValue.method (Extern.ReflectliteValue.valueError "reflectlite.Value.Len" 0) Extern.ReflectliteValue.len):=Ext.mk' Tryz.func323 (by kernel_rfl) (by kernel_rfl) (by kernel_rfl) (by kernel_rfl)
theorem aGP:Ext Tryz.prog 322 (Extern.ReflectliteSwapper.swapper "internal/reflectlite" (Extern.ReflectliteValue.valueError "Swapper")):=Ext.mk' Tryz.func322 (by kernel_rfl) (by kernel_rfl) (by kernel_rfl) (by kernel_rfl)
theorem aGR:Ext Tryz.prog 349 (Extern.ReflectliteSwapper.swap true):=Ext.mk' Tryz.func349 (by kernel_rfl) (by kernel_rfl) (by kernel_rfl) (by kernel_rfl)
theorem aGS:Ext Tryz.prog 350 (Extern.ReflectliteSwapper.swap true):=Ext.mk' Tryz.func350 (by kernel_rfl) (by kernel_rfl) (by kernel_rfl) (by kernel_rfl)
theorem aGT:Ext Tryz.prog 351 (Extern.ReflectliteSwapper.swap true):=Ext.mk' Tryz.func351 (by kernel_rfl) (by kernel_rfl) (by kernel_rfl) (by kernel_rfl)
theorem aGU:Ext Tryz.prog 352 (Extern.ReflectliteSwapper.swap true):=Ext.mk' Tryz.func352 (by kernel_rfl) (by kernel_rfl) (by kernel_rfl) (by kernel_rfl)
theorem aGV:Ext Tryz.prog 353 (Extern.ReflectliteSwapper.swap true):=Ext.mk' Tryz.func353 (by kernel_rfl) (by kernel_rfl) (by kernel_rfl) (by kernel_rfl)
theorem aGW:Ext Tryz.prog 354 (Extern.ReflectliteSwapper.swap true):=Ext.mk' Tryz.func354 (by kernel_rfl) (by kernel_rfl) (by kernel_rfl) (by kernel_rfl)
theorem aGX:Ext Tryz.prog 355 (Extern.ReflectliteSwapper.swap false):=Ext.mk' Tryz.func355 (by kernel_rfl) (by kernel_rfl) (by kernel_rfl) (by kernel_rfl)
theorem anD:Ext Tryz.prog 106 add64Entry:=Ext.mk' Tryz.func106 (by kernel_rfl) (by kernel_rfl) (by kernel_rfl) (by kernel_rfl)
theorem aGN:Ext Tryz.prog 316 Extern.BytealgCount.count:=Ext.mk' Tryz.func316 (by kernel_rfl) (by kernel_rfl) (by kernel_rfl) (by kernel_rfl)
theorem aGY:Ext Tryz.prog 372 Extern.BytealgIndexByte.indexByte:=Ext.mk' Tryz.func372 (by kernel_rfl) (by kernel_rfl) (by kernel_rfl) (by kernel_rfl)
theorem xMk:Ext Tryz.prog 388 (Extern.BytealgMakeNoZero.makeNoZero #[3] #[92]):=Ext.mk' Tryz.func388 (by kernel_rfl) (by kernel_rfl) (by kernel_rfl) (by kernel_rfl)
def ad1:XS:=[(1,347),(2,348),(4,350),(9,355)]
theorem aFu:afm Tryz.prog ad1:=by intro p hp;simp only[ad1,bH,Jj,or_false]at hp;rcases hp with rfl|rfl|rfl|rfl<;>kernel_rfl
noncomputable def XQ:W3:=
 [(99,SB),(221,acv),(321,acD Tryz.prog),(323,acz Tryz.prog),(322,acC Tryz.prog ad1),
  (349,FM Tryz.prog),(350,FM Tryz.prog),(351,FM Tryz.prog),(352,FM Tryz.prog),(353,FM Tryz.prog),(354,FM Tryz.prog),(355,FM Tryz.prog),(106,acs),(316,acw),(372,acy),(388,acA 5)]
theorem aAF:∀p∈XQ,eG Tryz.prog p.1 p.2:=by
 intro p hp;simp only[XQ,bH,Jj,or_false]at hp;rcases hp with rfl|rfl|rfl|rfl|rfl|rfl|rfl|rfl|rfl|rfl|rfl|rfl|rfl|rfl|rfl|rfl
 ·exact akA x99
 ·exact azF anE
 ·exact azN aGO
 ·exact azJ aGQ
 ·exact azM aGP aFu
 ·exact Lm aGR
 ·exact Lm aGS
 ·exact Lm aGT
 ·exact Lm aGU
 ·exact Lm aGV
 ·exact Lm aGW
 ·exact Lm aGX
 ·exact azB anD
 ·exact azG aGN
 ·exact azI aGY
 ·exact azK xMk (t:=92) rfl (by kernel_rfl) aU (by kernel_rfl)
noncomputable def call (pl:W3) (n:Nat):Caller:=aft Tryz.prog (Zx Tryz.prog) (adk pl) n
theorem Nz{pl:W3}(h:∀p∈pl,eG Tryz.prog p.1 p.2)(n:Nat):uD Tryz.prog (call pl n):=anY (ahh mixed) (alf h) names n
theorem ah3:Tryz.prog.globalNamed "unicode/utf8.first" =some 0:=by kernel_rfl
theorem avQ:(Tryz.prog.globals[0]?).map (·.type)=some 220:=by kernel_rfl
theorem aGg:Tryz.prog.underlying 220=some (.array 256 5):=by kernel_rfl
theorem aej:Tryz.prog.underlying 5=some (.int .u8):=by kernel_rfl
theorem apb:Tryz.prog.cellsOf 220=256:=by kernel_rfl
theorem cellsE:Tryz.prog.cellsOf 5=1:=by kernel_rfl
theorem firstData:Go.Pinned.utf8First=Lib.tabData .u8 (Go.Pinned.utf8FirstZ.map Int.ofNat):=by kernel_rfl
theorem avO:Tryz.prog.globalNamed "unicode/utf8.acceptRanges" =some 1:=by kernel_rfl
theorem avP:(Tryz.prog.globals[1]?).map (·.type)=some 223:=by kernel_rfl
theorem ao7:Tryz.prog.cellsOf 223=2*16:=by kernel_rfl
theorem apa:Tryz.prog.cellsOf 221=2:=by kernel_rfl
theorem an0:(Rows.laid_unicode_utf8_acceptRanges:DataW Unit)=acE .u8 16 UY:=by kernel_rfl
theorem ah4:Tryz.prog.globalNamed "math/bits.deBruijn64tab" =some 7:=by kernel_rfl
theorem av1:(Tryz.prog.globals[7]?).map (·.type)=some 476:=by kernel_rfl
theorem aGn:Tryz.prog.underlying 476=some (.array 64 5):=by kernel_rfl
theorem aGb:Tryz.prog.underlying 5=some (.int .u8):=by kernel_rfl
theorem ap2:Tryz.prog.cellsOf 476=64:=by kernel_rfl
theorem ao5:Tryz.prog.cellsOf 5=1:=by kernel_rfl
theorem atn:(Rows.laid_math_bits_deBruijn64tab:DataW Unit)=Lib.tabData .u8 agU:=by kernel_rfl
theorem ah5:Tryz.prog.globalNamed "internal/strconv.uint64pow10" =some 3:=by kernel_rfl
theorem av2:(Tryz.prog.globals[3]?).map (·.type)=some 455:=by kernel_rfl
theorem aGo:Tryz.prog.underlying 455=some (.array 20 22):=by kernel_rfl
theorem aGc:Tryz.prog.underlying 22=some (.int .u64):=by kernel_rfl
theorem ap3:Tryz.prog.cellsOf 455=20:=by kernel_rfl
theorem ao6:Tryz.prog.cellsOf 22=1:=by kernel_rfl
theorem ato:(Rows.laid_internal_strconv_uint64pow10:DataW Unit)=Lib.tabData .u64 ale:=by kernel_rfl
structure Tabs(W:World):Prop where
 first:TabAt W 0 NV
 acc:TabAt W 1 Ju
 agT:TabAt W 7 QK
 pow10:TabAt W 3 SN
abbrev ajo:List (String×DataW Unit):=[("math/bits.deBruijn32tab",Rows.laid_math_bits_deBruijn32tab),("math/bits.deBruijn64tab",Rows.laid_math_bits_deBruijn64tab),("internal/strconv.uint64pow10",Rows.laid_internal_strconv_uint64pow10),("unicode/utf8.acceptRanges",Rows.laid_unicode_utf8_acceptRanges),("strconv.ErrRange",Rows.laid_strconv_ErrRange),("strconv.ErrSyntax",Rows.laid_strconv_ErrSyntax),("unicode/utf8.first",Rows.laid_unicode_utf8_first)]
theorem tabs{W:World}(h:laidMetH Tryz.prog ajo W):Tabs W:=by
 have h':laidMet Tryz.prog ajo W:=h;have h2:=laidMet.tail (laidMet.tail (laidMet.tail (laidMet.tail (laidMet.tail (laidMet.tail (h'))))));rw[show Rows.laid_unicode_utf8_first=Lib.tabData .u8 (Go.Pinned.utf8FirstZ.map Int.ofNat)from firstData]at h2;have amM:=laidMet.tail (h');rw[atn]at amM;have amN:=laidMet.tail (laidMet.tail (h'));rw[ato]at amN;refine⟨aea (Lib.tabIs_of_head (rest:=[]) ah3 avQ aGg aej cellsE apb h2) ah3,?_,aea (Lib.tabIs_of_head ah4 av1 aGn aGb ao5 ap2 amM) ah4,aea (Lib.tabIs_of_head ah5 av2 aGo aGc ao6 ap3 amN) ah5⟩;have h3:Lib.VarReads Tryz.prog W "unicode/utf8.acceptRanges" (acE .u8 16 UY):=by rw[<-an0];exact Lib.laidMet.reads h' aA
 exact aFL h3 avO avP Tryz.underlying223 Tryz.underlying221 (λm fl hm=>by
  match m,hm with
  |0,hm=>simp at hm;subst hm;exact⟨aej,rfl,cellsE⟩
  |1,hm=>simp at hm;subst hm;exact⟨aej,rfl,cellsE⟩
  |m+2,hm=>simp at hm) rfl apa ao7
noncomputable def F0:aC:={h:=(((Tr.nil.set 0 (some (.cells NV 0 false false))).set 1 (some (.cells Ju 0 false false))).set 7 (some (.cells QK 0 false false))).set 3 (some (.cells SN 0 false false)),next:=40,lock:=0}
theorem aHa{id:Nat}{o:bP}(h:F0.get id=some o):(id=0/\o=.cells NV 0 false false)\/(id=1/\o=.cells Ju 0 false false)\/(id=7/\o=.cells QK 0 false false)\/(id=3/\o=.cells SN 0 false false):=by
 have h':Tr.get ((((Tr.nil.set 0 (some (.cells NV 0 false false))).set 1 (some (.cells Ju 0 false false))).set 7 (some (.cells QK 0 false false))).set 3 (some (.cells SN 0 false false))) id=some o:=h;rw[Tr.wX]at h';split at h'
 ·next e=>cases h';exact .inr (.inr (.inr (⟨e,rfl⟩)))
 rw[Tr.wX]at h';split at h'
 ·next e=>cases h';exact .inr (.inr (.inl ⟨e,rfl⟩))
 rw[Tr.wX]at h';split at h'
 ·next e=>cases h';exact .inr (.inl ⟨e,rfl⟩)
 rw[Tr.wX]at h';split at h'
 ·next e=>cases h';exact .inl ⟨e,rfl⟩
 rw[Tr.get_nil]at h';cases h'
theorem ab1:Tryz.prog.globals.size=8:=by kernel_rfl
theorem Jc:BH F0 Tryz.prog.globals.size:=by
 refine⟨by rw[ab1];decide,λid o ho=>?_⟩;rw[ab1];rcases aHa ho with⟨rfl,rfl⟩|⟨rfl,rfl⟩|⟨rfl,rfl⟩|⟨rfl,rfl⟩
 ·exact⟨_,rfl,by simp[aJ.tabs,dG],aU⟩
 ·exact⟨_,rfl,by simp[aJ.tabs,dG],aU⟩
 ·exact⟨_,rfl,by simp[aJ.tabs,dG],aU⟩
 ·exact⟨_,rfl,by simp[aJ.tabs,dG],aU⟩
theorem aHb:∀id o,F0.get id=some o->o.own=false:=Jc.own
noncomputable abbrev H0 (W:World):Env:=xM Tryz.prog.globals.size F0 λb=>W.heap[b]?
theorem aG9{W:World}(h:Tabs W):SR Tryz.prog (H0 W) F0 W:=by
 have tb:∀p∈(aJ.tabs:QP),TabAt W p.1 p.2:=by
  intro p hp;simp only[aJ.tabs,dG,bH,Jj,or_false]at hp;rcases hp with rfl|rfl|rfl|rfl
  ·exact h.first
  ·exact h.acc
  ·exact h.agT
  ·exact h.pow10
 refine Nb Jc.1 ?_ (λb o hb=>hb) ?_
 ·intro id o ho;obtain⟨c,rfl,hm,hle⟩:=Jc.2 id o ho;exact⟨hle,c,rfl,tb _ hm⟩
 ·intro p hp;obtain⟨cs,elem,fr,h1,h2⟩:=tb p hp;exact⟨cs,elem,fr,h1,h2⟩
def iK:Wf->Bool|some (.b true,_)=>true|_=>false
theorem abC{x:Wf}(h:iK x=true):∃F',x=some (.b true,F'):=by
 unfold iK at h;split at h
 ·exact⟨_,rfl⟩
 ·cases h
theorem aHL{pl:W3}(hpl:∀p∈pl,eG Tryz.prog p.1 p.2){f:FuncId}{fn:Func}{n:Nat}{args:Q3}{vs:Q6}{W:World}(hf:Tryz.prog.funcs[f]? =some fn)(hc:fn.body.isSome=true)(hrun:iK (call pl n f args F0)=true)
 (hT:Tabs W) (hv:aG (H0 W) args vs):Calls Tryz.prog f ⟨vs⟩ W λe W'=>e=.returned (.bool true)/\Kept W W':=by
 obtain⟨F',hs⟩:=abC hrun;obtain⟨c,hc⟩:=anS.1 hc;refine Calls.mono' (axr (Nz hpl n) names hf hc hs (aG9 hT) hv aHb) ?_;rintro e W' ⟨v,rfl,⟨H',hr⟩,hk⟩
 simp only[VR]at hr;exact⟨by rw[hr],hk⟩
abbrev closed(f:FuncId):FuncId×eU:=(f,Ll)
theorem lH{pl:W3}(hpl:∀p∈pl,eG Tryz.prog p.1 p.2){f:FuncId}{n:Nat}(hrun:iK (call pl n f [] F0)=true):∀p∈closed f::pl,eG Tryz.prog p.1 p.2:=by
 obtain⟨F',hs⟩:=abC hrun;intro p hp;rcases bH.1 hp with rfl|hp
 ·exact azE (Nz hpl n) Jc hs
 ·exact hpl p hp
def lay(c:QR):Obj->Obj
 |.cells _ t frozen=>.cells c t frozen
 |o=>o
noncomputable def laidWorld (os:Os):World:=
 {World.holding Tryz.prog os ⟨#[],#[],[]⟩with heap:=((((((((((World.holding Tryz.prog os ⟨#[],#[],[]⟩).heap.modify 0 (lay (Go.Pinned.utf8FirstZ.map λx=>Value.int .u8 (Int.ofNat x)).toArray)).modify 1 (lay ((List.range (2*16)).map λj=>Value.int .u8 (UY j)).toArray)).modify 6 (lay #[.int .u8 0,.int .u8 1,.int .u8 28,.int .u8 2,.int .u8 29,.int .u8 14,.int .u8 24,.int .u8 3,.int .u8 30,.int .u8 22,.int .u8 20,.int .u8 15,.int .u8 25,.int .u8 17,.int .u8 4,.int .u8 8,.int .u8 31,.int .u8 27,.int .u8 13,.int .u8 23,.int .u8 21,.int .u8 19,.int .u8 16,.int .u8 7,.int .u8 26,.int .u8 12,.int .u8 18,.int .u8 6,.int .u8 11,.int .u8 5,.int .u8 10,.int .u8 9])).modify 7 (lay #[.int .u8 0,.int .u8 1,.int .u8 56,.int .u8 2,.int .u8 57,.int .u8 49,.int .u8 28,.int .u8 3,.int .u8 61,.int .u8 58,.int .u8 42,.int .u8 50,.int .u8 38,.int .u8 29,.int .u8 17,.int .u8 4,.int .u8 62,.int .u8 47,.int .u8 59,.int .u8 36,.int .u8 45,.int .u8 43,.int .u8 51,.int .u8 22,.int .u8 53,.int .u8 39,.int .u8 33,.int .u8 30,.int .u8 24,.int .u8 18,.int .u8 12,.int .u8 5,.int .u8 63,.int .u8 55,.int .u8 48,.int .u8 27,.int .u8 60,.int .u8 41,.int .u8 37,.int .u8 16,.int .u8 46,.int .u8 35,.int .u8 44,.int .u8 21,.int .u8 52,.int .u8 32,.int .u8 23,.int .u8 11,.int .u8 54,.int .u8 26,.int .u8 40,.int .u8 15,.int .u8 34,.int .u8 20,.int .u8 31,.int .u8 10,.int .u8 25,.int .u8 14,.int .u8 19,.int .u8 9,.int .u8 13,.int .u8 8,.int .u8 7,.int .u8 6])).modify 3 (lay #[.int .u64 1,.int .u64 10,.int .u64 100,.int .u64 1000,.int .u64 10000,.int .u64 100000,.int .u64 1000000,.int .u64 10000000,.int .u64 100000000,.int .u64 1000000000,.int .u64 10000000000,.int .u64 100000000000,.int .u64 1000000000000,.int .u64 10000000000000,.int .u64 100000000000000,.int .u64 1000000000000000,.int .u64 10000000000000000,.int .u64 100000000000000000,.int .u64 1000000000000000000,.int .u64 10000000000000000000])).modify 5 (lay #[.iface 477 (.pointer (some ⟨(World.holding Tryz.prog os ⟨#[],#[],[]⟩).heap.size+0,0,none⟩))])).modify 4 (lay #[.iface 477 (.pointer (some ⟨(World.holding Tryz.prog os ⟨#[],#[],[]⟩).heap.size+1,0,none⟩))])).push (.cells #[.string ⟨#[118,97,108,117,101,32,111,117,116,32,111,102,32,114,97,110,103,101]⟩] 479 (0,0))).push (.cells #[.string ⟨#[105,110,118,97,108,105,100,32,115,121,110,116,97,120]⟩] 479 (0,0)))}
