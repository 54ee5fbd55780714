/- The evaluator over this program: its prims, its tables, its start. -/
import Derived.Test.YtcnekfnipdihgaaGreatDoorAbsH
import GoSem.PinnedTables
import Derived.Stop.LaidErr
import Derived.Test.YtcnekfnipdihgaaGreatDoorCards
import Derived.Test.YtcnekfnipdihgaaGreatDoorTie
import Derived.ProofKit
import Derived.OpenShut
import Derived.Deep.DeepHandedRow
namespace Go.Proofs.YtcnekfnipdihgaaGreatDoor
open Go.ChangeShapes Go.WideShapes Go.ChangeAt Go.RowKit Go.aP
set_option maxRecDepth 100000
theorem own:ownKnob Tryz.prog.godebug=none:=by kernel_rfl
theorem mixed:Tryz.prog.follows .mixedOrders=true:=by kernel_rfl
theorem axY:(Tryz.prog.funcs.toList.all λfn=>fn.body.isNone || !(fn.name == "runtime.NumGoroutine"))=true:=by kernel_rfl
theorem names:xX Tryz.prog:=by
 intro f fn c hf hc;have hm:fn∈Tryz.prog.funcs.toList:=by rw[rX]at hf;obtain⟨_,rfl⟩:=hf;simp
 have:=List.all_eq_true.1 axY fn hm;simpa[hc]using this
noncomputable def NH:Q6:=(Go.Pinned.utf8FirstZ.map Int.ofNat).map λz=>AV.i .u8 z
def anu:Q4:=[128,191,160,191,128,159,144,191,128,143]
def UK(k:Nat):Int:=(anu.getD k 0:Nat)
noncomputable def I5:Q6:=(List.range (2*16)).map λj=>.i .u8 (UK j)
def agB:List Int:=[0,1,56,2,57,49,28,3,61,58,42,50,38,29,17,4,62,47,59,36,45,43,51,22,53,39,33,30,24,18,12,5,63,55,48,27,60,41,37,16,46,35,44,21,52,32,23,11,54,26,40,15,34,20,31,10,25,14,19,9,13,8,7,6]
noncomputable def QH:Q6:=agB.map λz=>AV.i .u8 z
def akR:List Int:=[1,10,100,1000,10000,100000,1000000,10000000,100000000,1000000000,10000000000,100000000000,1000000000000,10000000000000,100000000000000,1000000000000000,10000000000000000,100000000000000000,1000000000000000000,10000000000000000000]
noncomputable def SH:Q6:=akR.map λz=>AV.i .u64 z
noncomputable def dD:QQ:=[(0,NH),(1,I5),(7,QH),(3,SH)]
noncomputable instance:aJ:={nodes:=[],dec:=[],tabs:=dD,I:=λ_ _=>none,val:=λ_=>none,tH:=by intro n nd h;simp at h,CX:=by intro n b h;simp at h}
theorem am1:Ext Tryz.prog 105 Extern.AbiNoEscape.same:=Ext.mk' Tryz.func105 (by kernel_rfl) (by kernel_rfl) (by kernel_rfl) (by kernel_rfl)
theorem am3:Ext Tryz.prog 194 Extern.BytealgCompare.compare:=Ext.mk' Tryz.func194 (by kernel_rfl) (by kernel_rfl) (by kernel_rfl) (by kernel_rfl)
theorem aFH:Ext Tryz.prog 302 (λargs=>Extern.ReflectliteValue.unpack (args.getD 0 (.tuple #[]))):=Ext.mk' Tryz.func302 (by kernel_rfl) (by kernel_rfl) (by kernel_rfl) (by kernel_rfl)
theorem aFJ:Ext Tryz.prog 304 (Extern.ReflectliteValue.method (Extern.ReflectliteValue.valueError "reflectlite.Value.Len" 0) Extern.ReflectliteValue.len):=Ext.mk' Tryz.func304 (by kernel_rfl) (by kernel_rfl) (by kernel_rfl) (by kernel_rfl)
theorem aFI:Ext Tryz.prog 303 (Extern.ReflectliteSwapper.swapper "internal/reflectlite" (Extern.ReflectliteValue.valueError "Swapper")):=Ext.mk' Tryz.func303 (by kernel_rfl) (by kernel_rfl) (by kernel_rfl) (by kernel_rfl)
theorem aFK:Ext Tryz.prog 344 (Extern.ReflectliteSwapper.swap true):=Ext.mk' Tryz.func344 (by kernel_rfl) (by kernel_rfl) (by kernel_rfl) (by kernel_rfl)
theorem aFL:Ext Tryz.prog 345 (Extern.ReflectliteSwapper.swap true):=Ext.mk' Tryz.func345 (by kernel_rfl) (by kernel_rfl) (by kernel_rfl) (by kernel_rfl)
theorem aFM:Ext Tryz.prog 346 (Extern.ReflectliteSwapper.swap true):=Ext.mk' Tryz.func346 (by kernel_rfl) (by kernel_rfl) (by kernel_rfl) (by kernel_rfl)
theorem aFN:Ext Tryz.prog 347 (Extern.ReflectliteSwapper.swap true):=Ext.mk' Tryz.func347 (by kernel_rfl) (by kernel_rfl) (by kernel_rfl) (by kernel_rfl)
theorem aFO:Ext Tryz.prog 348 (Extern.ReflectliteSwapper.swap true):=Ext.mk' Tryz.func348 (by kernel_rfl) (by kernel_rfl) (by kernel_rfl) (by kernel_rfl)
theorem aFP:Ext Tryz.prog 349 (Extern.ReflectliteSwapper.swap true):=Ext.mk' Tryz.func349 (by kernel_rfl) (by kernel_rfl) (by kernel_rfl) (by kernel_rfl)
theorem aFQ:Ext Tryz.prog 350 (Extern.ReflectliteSwapper.swap false):=Ext.mk' Tryz.func350 (by kernel_rfl) (by kernel_rfl) (by kernel_rfl) (by kernel_rfl)
theorem am2:Ext Tryz.prog 110 add64Entry:=Ext.mk' Tryz.func110 (by kernel_rfl) (by kernel_rfl) (by kernel_rfl) (by kernel_rfl)
theorem aFG:Ext Tryz.prog 297 Extern.BytealgCount.count:=Ext.mk' Tryz.func297 (by kernel_rfl) (by kernel_rfl) (by kernel_rfl) (by kernel_rfl)
theorem aFR:Ext Tryz.prog 372 Extern.BytealgIndexByte.indexByte:=Ext.mk' Tryz.func372 (by kernel_rfl) (by kernel_rfl) (by kernel_rfl) (by kernel_rfl)
theorem xMk:Ext Tryz.prog 388 (Extern.BytealgMakeNoZero.makeNoZero #[3] #[91]):=Ext.mk' Tryz.func388 (by kernel_rfl) (by kernel_rfl) (by kernel_rfl) (by kernel_rfl)
def adH:K0:=[(1,342),(2,343),(4,345),(9,350)]
theorem aEh:ae2 Tryz.prog adH:=by intro p hp;simp only[adH,bJ,IQ,or_false]at hp;rcases hp with rfl|rfl|rfl|rfl<;>kernel_rfl
noncomputable def XK:W4:=
 [(105,SB),(194,acd),(302,aco Tryz.prog),(304,acg Tryz.prog),(303,acn Tryz.prog adH),
  (344,EY Tryz.prog),(345,EY Tryz.prog),(346,EY Tryz.prog),(347,EY Tryz.prog),(348,EY Tryz.prog),(349,EY Tryz.prog),(350,EY Tryz.prog),(110,ab9),(297,ace),(372,acf),(388,aci 5)]
theorem azG:∀p∈XK,dP Tryz.prog p.1 p.2:=by
 intro p hp;simp only[XK,bJ,IQ,or_false]at hp;rcases hp with rfl|rfl|rfl|rfl|rfl|rfl|rfl|rfl|rfl|rfl|rfl|rfl|rfl|rfl|rfl|rfl
 ·exact akd am1
 ·exact ayB am3
 ·exact ayK aFH
 ·exact ayF aFJ
 ·exact ayJ aFI aEh
 ·exact KN aFK
 ·exact KN aFL
 ·exact KN aFM
 ·exact KN aFN
 ·exact KN aFO
 ·exact KN aFP
 ·exact KN aFQ
 ·exact ayx am2
 ·exact ayC aFG
 ·exact ayE aFR
 ·exact ayH xMk (t:=91) rfl (by kernel_rfl) aU (by kernel_rfl)
noncomputable def call (pl:W4) (n:Nat):Caller:=ae8 Tryz.prog (Zr Tryz.prog) (ac3 pl) n
theorem Nl{pl:W4}(h:∀p∈pl,dP Tryz.prog p.1 p.2)(n:Nat):tN Tryz.prog (call pl n):=anq (agV mixed) (akS h) names n
theorem ahI:Tryz.prog.globalNamed "unicode/utf8.first" =some 0:=by kernel_rfl
theorem auW:(Tryz.prog.globals[0]?).map (·.type)=some 208:=by kernel_rfl
theorem aE5:Tryz.prog.underlying 208=some (.array 256 5):=by kernel_rfl
theorem adY:Tryz.prog.underlying 5=some (.int .u8):=by kernel_rfl
theorem aoz:Tryz.prog.cellsOf 208=256:=by kernel_rfl
theorem cellsE:Tryz.prog.cellsOf 5=1:=by kernel_rfl
theorem firstData:Go.Pinned.utf8First=Lib.tabData .u8 (Go.Pinned.utf8FirstZ.map Int.ofNat):=by kernel_rfl
theorem auU:Tryz.prog.globalNamed "unicode/utf8.acceptRanges" =some 1:=by kernel_rfl
theorem auV:(Tryz.prog.globals[1]?).map (·.type)=some 211:=by kernel_rfl
theorem aov:Tryz.prog.cellsOf 211=2*16:=by kernel_rfl
theorem aoy:Tryz.prog.cellsOf 209=2:=by kernel_rfl
theorem ant:(Rows.laid_unicode_utf8_acceptRanges:DataW Unit)=acp .u8 16 UK:=by kernel_rfl
theorem ahJ:Tryz.prog.globalNamed "math/bits.deBruijn64tab" =some 7:=by kernel_rfl
theorem au6:(Tryz.prog.globals[7]?).map (·.type)=some 480:=by kernel_rfl
theorem aFc:Tryz.prog.underlying 480=some (.array 64 5):=by kernel_rfl
theorem aE0:Tryz.prog.underlying 5=some (.int .u8):=by kernel_rfl
theorem apt:Tryz.prog.cellsOf 480=64:=by kernel_rfl
theorem aot:Tryz.prog.cellsOf 5=1:=by kernel_rfl
theorem asC:(Rows.laid_math_bits_deBruijn64tab:DataW Unit)=Lib.tabData .u8 agB:=by kernel_rfl
theorem ahK:Tryz.prog.globalNamed "internal/strconv.uint64pow10" =some 3:=by kernel_rfl
theorem au7:(Tryz.prog.globals[3]?).map (·.type)=some 453:=by kernel_rfl
theorem aFd:Tryz.prog.underlying 453=some (.array 20 22):=by kernel_rfl
theorem aE1:Tryz.prog.underlying 22=some (.int .u64):=by kernel_rfl
theorem apu:Tryz.prog.cellsOf 453=20:=by kernel_rfl
theorem aou:Tryz.prog.cellsOf 22=1:=by kernel_rfl
theorem asD:(Rows.laid_internal_strconv_uint64pow10:DataW Unit)=Lib.tabData .u64 akR:=by kernel_rfl
structure Tabs(W:World):Prop where
 first:TabAt W 0 NH
 acc:TabAt W 1 I5
 agA:TabAt W 7 QH
 pow10:TabAt W 3 SH
abbrev ai0:List (String×DataW Unit):=[("math/bits.deBruijn32tab",Rows.laid_math_bits_deBruijn32tab),("math/bits.deBruijn64tab",Rows.laid_math_bits_deBruijn64tab),("internal/strconv.uint64pow10",Rows.laid_internal_strconv_uint64pow10),("unicode/utf8.acceptRanges",Rows.laid_unicode_utf8_acceptRanges),("strconv.ErrRange",Rows.laid_strconv_ErrRange),("strconv.ErrSyntax",Rows.laid_strconv_ErrSyntax),("unicode/utf8.first",Rows.laid_unicode_utf8_first)]
theorem tabs{W:World}(h:laidMetH Tryz.prog ai0 W):Tabs W:=by
 have h':laidMet Tryz.prog ai0 W:=h;have h2:=laidMet.tail (laidMet.tail (laidMet.tail (laidMet.tail (laidMet.tail (laidMet.tail (h'))))));rw[show Rows.laid_unicode_utf8_first=Lib.tabData .u8 (Go.Pinned.utf8FirstZ.map Int.ofNat)from firstData]at h2;have amf:=laidMet.tail (h');rw[asC]at amf;have amg:=laidMet.tail (laidMet.tail (h'));rw[asD]at amg;refine⟨adQ (Lib.tabIs_of_head (rest:=[]) ahI auW aE5 adY cellsE aoz h2) ahI,?_,adQ (Lib.tabIs_of_head ahJ au6 aFc aE0 aot apt amf) ahJ,adQ (Lib.tabIs_of_head ahK au7 aFd aE1 aou apu amg) ahK⟩;have h3:Lib.VarReads Tryz.prog W "unicode/utf8.acceptRanges" (acp .u8 16 UK):=by rw[<-ant];exact Lib.laidMet.reads h' aA
 exact aEy h3 auU auV Tryz.underlying211 Tryz.underlying209 (λm fl hm=>by
  match m,hm with
  |0,hm=>simp at hm;subst hm;exact⟨adY,rfl,cellsE⟩
  |1,hm=>simp at hm;subst hm;exact⟨adY,rfl,cellsE⟩
  |m+2,hm=>simp at hm) rfl aoy aov
noncomputable def J0:aC:={h:=(((Tr.nil.set 0 (some (.cells NH 0 false false))).set 1 (some (.cells I5 0 false false))).set 7 (some (.cells QH 0 false false))).set 3 (some (.cells SH 0 false false)),next:=40,lock:=0}
theorem aF2{id:Nat}{o:bM}(h:J0.get id=some o):(id=0/\o=.cells NH 0 false false)\/(id=1/\o=.cells I5 0 false false)\/(id=7/\o=.cells QH 0 false false)\/(id=3/\o=.cells SH 0 false false):=by
 have h':Tr.get ((((Tr.nil.set 0 (some (.cells NH 0 false false))).set 1 (some (.cells I5 0 false false))).set 7 (some (.cells QH 0 false false))).set 3 (some (.cells SH 0 false false))) id=some o:=h;rw[Tr.wE]at h';split at h'
 ·next e=>cases h';exact .inr (.inr (.inr (⟨e,rfl⟩)))
 rw[Tr.wE]at h';split at h'
 ·next e=>cases h';exact .inr (.inr (.inl ⟨e,rfl⟩))
 rw[Tr.wE]at h';split at h'
 ·next e=>cases h';exact .inr (.inl ⟨e,rfl⟩)
 rw[Tr.wE]at h';split at h'
 ·next e=>cases h';exact .inl ⟨e,rfl⟩
 rw[Tr.get_nil]at h';cases h'
theorem abS:Tryz.prog.globals.size=8:=by kernel_rfl
theorem Iz:AY J0 Tryz.prog.globals.size:=by
 refine⟨by rw[abS];decide,λid o ho=>?_⟩;rw[abS];rcases aF2 ho with⟨rfl,rfl⟩|⟨rfl,rfl⟩|⟨rfl,rfl⟩|⟨rfl,rfl⟩
 ·exact⟨_,rfl,by simp[aJ.tabs,dD],aU⟩
 ·exact⟨_,rfl,by simp[aJ.tabs,dD],aU⟩
 ·exact⟨_,rfl,by simp[aJ.tabs,dD],aU⟩
 ·exact⟨_,rfl,by simp[aJ.tabs,dD],aU⟩
theorem aF3:∀id o,J0.get id=some o->o.own=false:=Iz.own
noncomputable abbrev F0 (W:World):Env:=xC Tryz.prog.globals.size J0 λb=>W.heap[b]?
theorem aF1{W:World}(h:Tabs W):SR Tryz.prog (F0 W) J0 W:=by
 have tb:∀p∈(aJ.tabs:QQ),TabAt W p.1 p.2:=by
  intro p hp;simp only[aJ.tabs,dD,bJ,IQ,or_false]at hp;rcases hp with rfl|rfl|rfl|rfl
  ·exact h.first
  ·exact h.acc
  ·exact h.agA
  ·exact h.pow10
 refine MC Iz.1 ?_ (λb o hb=>hb) ?_
 ·intro id o ho;obtain⟨c,rfl,hm,hle⟩:=Iz.2 id o ho;exact⟨hle,c,rfl,tb _ hm⟩
 ·intro p hp;obtain⟨cs,elem,fr,h1,h2⟩:=tb p hp;exact⟨cs,elem,fr,h1,h2⟩
def jR:Wg->Bool|some (.b true,_)=>true|_=>false
theorem abt{x:Wg}(h:jR x=true):∃J',x=some (.b true,J'):=by
 unfold jR at h;split at h
 ·exact⟨_,rfl⟩
 ·cases h
theorem aGD{pl:W4}(hpl:∀p∈pl,dP Tryz.prog p.1 p.2){f:FuncId}{fn:Func}{n:Nat}{args:Q6}{vs:Qt}{W:World}(hf:Tryz.prog.funcs[f]? =some fn)(hc:fn.body.isSome=true)(hrun:jR (call pl n f args J0)=true)
 (hT:Tabs W) (hv:aG (F0 W) args vs):Calls Tryz.prog f ⟨vs⟩ W λe W'=>e=.returned (.bool true)/\Kept W W':=by
 obtain⟨J',hs⟩:=abt hrun;obtain⟨c,hc⟩:=anj.1 hc;refine Calls.mono' (awu (Nl hpl n) names hf hc hs (aF1 hT) hv aF3) ?_;rintro e W' ⟨v,rfl,⟨F',hr⟩,hk⟩
 simp only[VR]at hr;exact⟨by rw[hr],hk⟩
abbrev closed(f:FuncId):FuncId×dV:=(f,KL)
theorem kZ{pl:W4}(hpl:∀p∈pl,dP Tryz.prog p.1 p.2){f:FuncId}{n:Nat}(hrun:jR (call pl n f [] J0)=true):∀p∈closed f::pl,dP Tryz.prog p.1 p.2:=by
 obtain⟨J',hs⟩:=abt hrun;intro p hp;rcases bJ.1 hp with rfl|hp
 ·exact ayA (Nl hpl n) Iz hs
 ·exact hpl p hp
def lay(c:W2):Obj->Obj
 |.cells _ t frozen=>.cells c t frozen
 |o=>o
noncomputable def laidWorld (os:Os):World:=
 {World.holding Tryz.prog os ⟨#[],#[],[]⟩with heap:=((((((((((World.holding Tryz.prog os ⟨#[],#[],[]⟩).heap.modify 0 (lay (Go.Pinned.utf8FirstZ.map λx=>Value.int .u8 (Int.ofNat x)).toArray)).modify 1 (lay ((List.range (2*16)).map λj=>Value.int .u8 (UK j)).toArray)).modify 6 (lay #[.int .u8 0,.int .u8 1,.int .u8 28,.int .u8 2,.int .u8 29,.int .u8 14,.int .u8 24,.int .u8 3,.int .u8 30,.int .u8 22,.int .u8 20,.int .u8 15,.int .u8 25,.int .u8 17,.int .u8 4,.int .u8 8,.int .u8 31,.int .u8 27,.int .u8 13,.int .u8 23,.int .u8 21,.int .u8 19,.int .u8 16,.int .u8 7,.int .u8 26,.int .u8 12,.int .u8 18,.int .u8 6,.int .u8 11,.int .u8 5,.int .u8 10,.int .u8 9])).modify 7 (lay #[.int .u8 0,.int .u8 1,.int .u8 56,.int .u8 2,.int .u8 57,.int .u8 49,.int .u8 28,.int .u8 3,.int .u8 61,.int .u8 58,.int .u8 42,.int .u8 50,.int .u8 38,.int .u8 29,.int .u8 17,.int .u8 4,.int .u8 62,.int .u8 47,.int .u8 59,.int .u8 36,.int .u8 45,.int .u8 43,.int .u8 51,.int .u8 22,.int .u8 53,.int .u8 39,.int .u8 33,.int .u8 30,.int .u8 24,.int .u8 18,.int .u8 12,.int .u8 5,.int .u8 63,.int .u8 55,.int .u8 48,.int .u8 27,.int .u8 60,.int .u8 41,.int .u8 37,.int .u8 16,.int .u8 46,.int .u8 35,.int .u8 44,.int .u8 21,.int .u8 52,.int .u8 32,.int .u8 23,.int .u8 11,.int .u8 54,.int .u8 26,.int .u8 40,.int .u8 15,.int .u8 34,.int .u8 20,.int .u8 31,.int .u8 10,.int .u8 25,.int .u8 14,.int .u8 19,.int .u8 9,.int .u8 13,.int .u8 8,.int .u8 7,.int .u8 6])).modify 3 (lay #[.int .u64 1,.int .u64 10,.int .u64 100,.int .u64 1000,.int .u64 10000,.int .u64 100000,.int .u64 1000000,.int .u64 10000000,.int .u64 100000000,.int .u64 1000000000,.int .u64 10000000000,.int .u64 100000000000,.int .u64 1000000000000,.int .u64 10000000000000,.int .u64 100000000000000,.int .u64 1000000000000000,.int .u64 10000000000000000,.int .u64 100000000000000000,.int .u64 1000000000000000000,.int .u64 10000000000000000000])).modify 5 (lay #[.iface 481 (.pointer (some ⟨(World.holding Tryz.prog os ⟨#[],#[],[]⟩).heap.size+0,0,none⟩))])).modify 4 (lay #[.iface 481 (.pointer (some ⟨(World.holding Tryz.prog os ⟨#[],#[],[]⟩).heap.size+1,0,none⟩))])).push (.cells #[.string ⟨#[118,97,108,117,101,32,111,117,116,32,111,102,32,114,97,110,103,101]⟩] 483 (0,0))).push (.cells #[.string ⟨#[105,110,118,97,108,105,100,32,115,121,110,116,97,120]⟩] 483 (0,0)))}
