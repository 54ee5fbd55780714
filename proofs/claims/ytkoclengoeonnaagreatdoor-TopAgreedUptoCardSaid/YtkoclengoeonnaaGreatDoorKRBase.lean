/- The evaluator over this program: its prims, its tables, its start. -/
import Derived.Test.YtkoclengoeonnaaGreatDoorAbsH
import GoSem.PinnedTables
import Derived.Stop.LaidErr
import Derived.Test.YtkoclengoeonnaaGreatDoorCards
import Derived.Test.YtkoclengoeonnaaGreatDoorTie
import Derived.ProofKit
import Derived.OpenShut
import Derived.Deep.DeepHandedRow
namespace Go.Proofs.YtkoclengoeonnaaGreatDoor
open Go.ChangeShapes Go.WideShapes Go.ChangeAt Go.RowKit Go.aP
set_option maxRecDepth 100000
theorem own:ownKnob Tryz.prog.godebug=none:=by kernel_rfl
theorem mixed:Tryz.prog.follows .mixedOrders=true:=by kernel_rfl
theorem au0:(Tryz.prog.funcs.toList.all λfn=>fn.body.isNone || !(fn.name == "runtime.NumGoroutine"))=true:=by kernel_rfl
theorem names:wI Tryz.prog:=by
 intro f fn c hf hc;have hm:fn∈Tryz.prog.funcs.toList:=by rw[qI]at hf;obtain⟨_,rfl⟩:=hf;simp
 have:=List.all_eq_true.1 au0 fn hm;simpa[hc]using this
noncomputable def LH:Q3:=(Go.Pinned.utf8FirstZ.map Int.ofNat).map λz=>AV.i .u8 z
def ak3:Q2:=[128,191,160,191,128,159,144,191,128,143]
def RY(k:Nat):Int:=(ak3.getD k 0:Nat)
noncomputable def HY:Q3:=(List.range (2*16)).map λj=>.i .u8 (RY j)
def aeZ:List Int:=[0,1,56,2,57,49,28,3,61,58,42,50,38,29,17,4,62,47,59,36,45,43,51,22,53,39,33,30,24,18,12,5,63,55,48,27,60,41,37,16,46,35,44,21,52,32,23,11,54,26,40,15,34,20,31,10,25,14,19,9,13,8,7,6]
noncomputable def O0:Q3:=aeZ.map λz=>AV.i .u8 z
def aiM:List Int:=[1,10,100,1000,10000,100000,1000000,10000000,100000000,1000000000,10000000000,100000000000,1000000000000,10000000000000,100000000000000,1000000000000000,10000000000000000,100000000000000000,1000000000000000000,10000000000000000000]
noncomputable def Qq:Q3:=aiM.map λz=>AV.i .u64 z
noncomputable def bY:Qt:=[(0,LH),(1,HY),(7,O0),(3,Qq)]
noncomputable instance:aJ:={nodes:=[],dec:=[],tabs:=bY,I:=λ_ _=>none,val:=λ_=>none,qQ:=by intro n nd h;simp at h,BD:=by intro n b h;simp at h}
theorem akG:Ext Tryz.prog 144 Extern.AbiNoEscape.same:=Ext.mk' Tryz.func144 (by kernel_rfl) (by kernel_rfl) (by kernel_rfl) (by kernel_rfl)
theorem akI:Ext Tryz.prog 237 Extern.BytealgCompare.compare:=Ext.mk' Tryz.func237 (by kernel_rfl) (by kernel_rfl) (by kernel_rfl) (by kernel_rfl)
theorem aCa:Ext Tryz.prog 330 (λargs=>Extern.ReflectliteValue.unpack (args.getD 0 (.tuple #[]))):=Ext.mk' Tryz.func330 (by kernel_rfl) (by kernel_rfl) (by kernel_rfl) (by kernel_rfl)
theorem aCc:Ext Tryz.prog 332 (Extern.ReflectliteValue.method (Extern.ReflectliteValue.valueError "reflectlite.Value.Len" 0) Extern.ReflectliteValue.len):=Ext.mk' Tryz.func332 (by kernel_rfl) (by kernel_rfl) (by kernel_rfl) (by kernel_rfl)
theorem aCb:Ext Tryz.prog 331 (Extern.ReflectliteSwapper.swapper "internal/reflectlite" (Extern.ReflectliteValue.valueError "Swapper")):=Ext.mk' Tryz.func331 (by kernel_rfl) (by kernel_rfl) (by kernel_rfl) (by kernel_rfl)
theorem aCd:Ext Tryz.prog 352 (Extern.ReflectliteSwapper.swap true):=Ext.mk' Tryz.func352 (by kernel_rfl) (by kernel_rfl) (by kernel_rfl) (by kernel_rfl)
theorem aCe:Ext Tryz.prog 353 (Extern.ReflectliteSwapper.swap true):=Ext.mk' Tryz.func353 (by kernel_rfl) (by kernel_rfl) (by kernel_rfl) (by kernel_rfl)
theorem aCf:Ext Tryz.prog 354 (Extern.ReflectliteSwapper.swap true):=Ext.mk' Tryz.func354 (by kernel_rfl) (by kernel_rfl) (by kernel_rfl) (by kernel_rfl)
theorem aCg:Ext Tryz.prog 355 (Extern.ReflectliteSwapper.swap true):=Ext.mk' Tryz.func355 (by kernel_rfl) (by kernel_rfl) (by kernel_rfl) (by kernel_rfl)
theorem aCh:Ext Tryz.prog 356 (Extern.ReflectliteSwapper.swap true):=Ext.mk' Tryz.func356 (by kernel_rfl) (by kernel_rfl) (by kernel_rfl) (by kernel_rfl)
theorem aCi:Ext Tryz.prog 357 (Extern.ReflectliteSwapper.swap true):=Ext.mk' Tryz.func357 (by kernel_rfl) (by kernel_rfl) (by kernel_rfl) (by kernel_rfl)
theorem aCj:Ext Tryz.prog 358 (Extern.ReflectliteSwapper.swap false):=Ext.mk' Tryz.func358 (by kernel_rfl) (by kernel_rfl) (by kernel_rfl) (by kernel_rfl)
theorem akH:Ext Tryz.prog 224 add64Entry:=Ext.mk' Tryz.func224 (by kernel_rfl) (by kernel_rfl) (by kernel_rfl) (by kernel_rfl)
theorem aB9:Ext Tryz.prog 325 Extern.BytealgCount.count:=Ext.mk' Tryz.func325 (by kernel_rfl) (by kernel_rfl) (by kernel_rfl) (by kernel_rfl)
theorem aCk:Ext Tryz.prog 374 Extern.BytealgIndexByte.indexByte:=Ext.mk' Tryz.func374 (by kernel_rfl) (by kernel_rfl) (by kernel_rfl) (by kernel_rfl)
theorem xMk:Ext Tryz.prog 390 (Extern.BytealgMakeNoZero.makeNoZero #[3] #[91]):=Ext.mk' Tryz.func390 (by kernel_rfl) (by kernel_rfl) (by kernel_rfl) (by kernel_rfl)
def ab4:XN:=[(1,350),(2,351),(4,353),(9,358)]
theorem aAR:adA Tryz.prog ab4:=by intro p hp;simp only[ab4,bJ,Hl,or_false]at hp;rcases hp with rfl|rfl|rfl|rfl<;>kernel_rfl
noncomputable def VK:W2:=
 [(144,Qm),(237,aaD),(330,aaK Tryz.prog),(332,aaG Tryz.prog),(331,aaJ Tryz.prog ab4),
  (352,Eo Tryz.prog),(353,Eo Tryz.prog),(354,Eo Tryz.prog),(355,Eo Tryz.prog),(356,Eo Tryz.prog),(357,Eo Tryz.prog),(358,Eo Tryz.prog),(224,aaB),(325,aaE),(374,aaF),(390,aaH 5)]
theorem awO:∀p∈VK,dK Tryz.prog p.1 p.2:=by
 intro p hp;simp only[VK,bJ,Hl,or_false]at hp;rcases hp with rfl|rfl|rfl|rfl|rfl|rfl|rfl|rfl|rfl|rfl|rfl|rfl|rfl|rfl|rfl|rfl
 ·exact ah8 akG
 ·exact avG akI
 ·exact avO aCa
 ·exact avK aCc
 ·exact avN aCb aAR
 ·exact JB aCd
 ·exact JB aCe
 ·exact JB aCf
 ·exact JB aCg
 ·exact JB aCh
 ·exact JB aCi
 ·exact JB aCj
 ·exact avC akH
 ·exact avH aB9
 ·exact avJ aCk
 ·exact avL xMk (t:=91) rfl (by kernel_rfl) aX (by kernel_rfl)
noncomputable def call (pl:W2) (n:Nat):Caller:=adH Tryz.prog (XR Tryz.prog) (abt pl) n
theorem La{pl:W2}(h:∀p∈pl,dK Tryz.prog p.1 p.2)(n:Nat):qV Tryz.prog (call pl n):=ak0 (afh mixed) (aiN h) names n
theorem af2:Tryz.prog.globalNamed "unicode/utf8.first" =some 0:=by kernel_rfl
theorem arK:(Tryz.prog.globals[0]?).map (·.type)=some 236:=by kernel_rfl
theorem aBD:Tryz.prog.underlying 236=some (.array 256 5):=by kernel_rfl
theorem acu:Tryz.prog.underlying 5=some (.int .u8):=by kernel_rfl
theorem al5:Tryz.prog.cellsOf 236=256:=by kernel_rfl
theorem cellsE:Tryz.prog.cellsOf 5=1:=by kernel_rfl
theorem firstData:Go.Pinned.utf8First=Lib.tabData .u8 (Go.Pinned.utf8FirstZ.map Int.ofNat):=by kernel_rfl
theorem arI:Tryz.prog.globalNamed "unicode/utf8.acceptRanges" =some 1:=by kernel_rfl
theorem arJ:(Tryz.prog.globals[1]?).map (·.type)=some 239:=by kernel_rfl
theorem al1:Tryz.prog.cellsOf 239=2*16:=by kernel_rfl
theorem al4:Tryz.prog.cellsOf 237=2:=by kernel_rfl
theorem ak2:(Rows.laid_unicode_utf8_acceptRanges:DataW Unit)=aaL .u8 16 RY:=by kernel_rfl
theorem af4:Tryz.prog.globalNamed "math/bits.deBruijn64tab" =some 7:=by kernel_rfl
theorem arU:(Tryz.prog.globals[7]?).map (·.type)=some 478:=by kernel_rfl
theorem aBK:Tryz.prog.underlying 478=some (.array 64 5):=by kernel_rfl
theorem aBy:Tryz.prog.underlying 5=some (.int .u8):=by kernel_rfl
theorem amV:Tryz.prog.cellsOf 478=64:=by kernel_rfl
theorem alZ:Tryz.prog.cellsOf 5=1:=by kernel_rfl
theorem apH:(Rows.laid_math_bits_deBruijn64tab:DataW Unit)=Lib.tabData .u8 aeZ:=by kernel_rfl
theorem af5:Tryz.prog.globalNamed "internal/strconv.uint64pow10" =some 3:=by kernel_rfl
theorem arV:(Tryz.prog.globals[3]?).map (·.type)=some 458:=by kernel_rfl
theorem aBL:Tryz.prog.underlying 458=some (.array 20 22):=by kernel_rfl
theorem aBz:Tryz.prog.underlying 22=some (.int .u64):=by kernel_rfl
theorem amW:Tryz.prog.cellsOf 458=20:=by kernel_rfl
theorem al0:Tryz.prog.cellsOf 22=1:=by kernel_rfl
theorem apI:(Rows.laid_internal_strconv_uint64pow10:DataW Unit)=Lib.tabData .u64 aiM:=by kernel_rfl
structure Tabs(W:World):Prop where
 first:TabAt W 0 LH
 acc:TabAt W 1 HY
 aeY:TabAt W 7 O0
 pow10:TabAt W 3 Qq
abbrev ag7:List (String×DataW Unit):=[("math/bits.deBruijn32tab",Rows.laid_math_bits_deBruijn32tab),("math/bits.deBruijn64tab",Rows.laid_math_bits_deBruijn64tab),("internal/strconv.uint64pow10",Rows.laid_internal_strconv_uint64pow10),("unicode/utf8.acceptRanges",Rows.laid_unicode_utf8_acceptRanges),("strconv.ErrRange",Rows.laid_strconv_ErrRange),("strconv.ErrSyntax",Rows.laid_strconv_ErrSyntax),("unicode/utf8.first",Rows.laid_unicode_utf8_first)]
theorem tabs{W:World}(h:laidMetH Tryz.prog ag7 W):Tabs W:=by
 have h':laidMet Tryz.prog ag7 W:=h;have h2:=laidMet.tail (laidMet.tail (laidMet.tail (laidMet.tail (laidMet.tail (laidMet.tail (h'))))));rw[show Rows.laid_unicode_utf8_first=Lib.tabData .u8 (Go.Pinned.utf8FirstZ.map Int.ofNat)from firstData]at h2;have ajW:=laidMet.tail (h');rw[apH]at ajW;have ajX:=laidMet.tail (laidMet.tail (h'));rw[apI]at ajX;refine⟨acg (Lib.tabIs_of_head (rest:=[]) af2 arK aBD acu cellsE al5 h2) af2,?_,acg (Lib.tabIs_of_head af4 arU aBK aBy alZ amV ajW) af4,acg (Lib.tabIs_of_head af5 arV aBL aBz al0 amW ajX) af5⟩;have h3:Lib.VarReads Tryz.prog W "unicode/utf8.acceptRanges" (aaL .u8 16 RY):=by rw[<-ak2];exact Lib.laidMet.reads h' aA
 exact aBb h3 arI arJ Tryz.underlying239 Tryz.underlying237 (λm fl hm=>by
  match m,hm with
  |0,hm=>simp at hm;subst hm;exact⟨acu,rfl,cellsE⟩
  |1,hm=>simp at hm;subst hm;exact⟨acu,rfl,cellsE⟩
  |m+2,hm=>simp at hm) rfl al4 al1
noncomputable def J0:aC:={h:=(((Tr.nil.set 0 (some (.cells LH 0 false false))).set 1 (some (.cells HY 0 false false))).set 7 (some (.cells O0 0 false false))).set 3 (some (.cells Qq 0 false false)),next:=40,lock:=0}
theorem aCt{id:Nat}{o:bG}(h:J0.get id=some o):(id=0/\o=.cells LH 0 false false)\/(id=1/\o=.cells HY 0 false false)\/(id=7/\o=.cells O0 0 false false)\/(id=3/\o=.cells Qq 0 false false):=by
 have h':Tr.get ((((Tr.nil.set 0 (some (.cells LH 0 false false))).set 1 (some (.cells HY 0 false false))).set 7 (some (.cells O0 0 false false))).set 3 (some (.cells Qq 0 false false))) id=some o:=h;rw[Tr.uN]at h';split at h'
 ·next e=>cases h';exact .inr (.inr (.inr (⟨e,rfl⟩)))
 rw[Tr.uN]at h';split at h'
 ·next e=>cases h';exact .inr (.inr (.inl ⟨e,rfl⟩))
 rw[Tr.uN]at h';split at h'
 ·next e=>cases h';exact .inr (.inl ⟨e,rfl⟩)
 rw[Tr.uN]at h';split at h'
 ·next e=>cases h';exact .inl ⟨e,rfl⟩
 rw[Tr.get_nil]at h';cases h'
theorem aal:Tryz.prog.globals.size=8:=by kernel_rfl
theorem G9:zO J0 Tryz.prog.globals.size:=by
 refine⟨by rw[aal];decide,λid o ho=>?_⟩;rw[aal];rcases aCt ho with⟨rfl,rfl⟩|⟨rfl,rfl⟩|⟨rfl,rfl⟩|⟨rfl,rfl⟩
 ·exact⟨_,rfl,by simp[aJ.tabs,bY],aX⟩
 ·exact⟨_,rfl,by simp[aJ.tabs,bY],aX⟩
 ·exact⟨_,rfl,by simp[aJ.tabs,bY],aX⟩
 ·exact⟨_,rfl,by simp[aJ.tabs,bY],aX⟩
theorem aCu:∀id o,J0.get id=some o->o.own=false:=G9.own
noncomputable abbrev F0 (W:World):Env:=vM Tryz.prog.globals.size J0 λb=>W.heap[b]?
theorem aCs{W:World}(h:Tabs W):SR Tryz.prog (F0 W) J0 W:=by
 have tb:∀p∈(aJ.tabs:Qt),TabAt W p.1 p.2:=by
  intro p hp;simp only[aJ.tabs,bY,bJ,Hl,or_false]at hp;rcases hp with rfl|rfl|rfl|rfl
  ·exact h.first
  ·exact h.acc
  ·exact h.aeY
  ·exact h.pow10
 refine KJ G9.1 ?_ (λb o hb=>hb) ?_
 ·intro id o ho;obtain⟨c,rfl,hm,hle⟩:=G9.2 id o ho;exact⟨hle,c,rfl,tb _ hm⟩
 ·intro p hp;obtain⟨cs,elem,fr,h1,h2⟩:=tb p hp;exact⟨cs,elem,fr,h1,h2⟩
def jy:Wd->Bool|some (.b true,_)=>true|_=>false
theorem ZM{x:Wd}(h:jy x=true):∃J',x=some (.b true,J'):=by
 unfold jy at h;split at h
 ·exact⟨_,rfl⟩
 ·cases h
theorem aC4{pl:W2}(hpl:∀p∈pl,dK Tryz.prog p.1 p.2){f:FuncId}{fn:Func}{n:Nat}{args:Q3}{vs:Q6}{W:World}(hf:Tryz.prog.funcs[f]? =some fn)(hc:fn.body.isSome=true)(hrun:jy (call pl n f args J0)=true)
 (hT:Tabs W) (hv:aG (F0 W) args vs):Calls Tryz.prog f ⟨vs⟩ W λe W'=>e=.returned (.bool true)/\Kept W W':=by
 obtain⟨J',hs⟩:=ZM hrun;obtain⟨c,hc⟩:=akU.1 hc;refine Calls.mono' (atj (La hpl n) names hf hc hs (aCs hT) hv aCu) ?_;rintro e W' ⟨v,rfl,⟨F',hr⟩,hk⟩
 simp only[VR]at hr;exact⟨by rw[hr],hk⟩
abbrev closed(f:FuncId):FuncId×dM:=(f,JA)
theorem jZ{pl:W2}(hpl:∀p∈pl,dK Tryz.prog p.1 p.2){f:FuncId}{n:Nat}(hrun:jy (call pl n f [] J0)=true):∀p∈closed f::pl,dK Tryz.prog p.1 p.2:=by
 obtain⟨J',hs⟩:=ZM hrun;intro p hp;rcases bJ.1 hp with rfl|hp
 ·exact avF (La hpl n) G9 hs
 ·exact hpl p hp
def lay(c:QQ):Obj->Obj
 |.cells _ t frozen=>.cells c t frozen
 |o=>o
noncomputable def laidWorld (os:Os):World:=
 {World.holding Tryz.prog os ⟨#[],#[],[]⟩with heap:=((((((((((World.holding Tryz.prog os ⟨#[],#[],[]⟩).heap.modify 0 (lay (Go.Pinned.utf8FirstZ.map λx=>Value.int .u8 (Int.ofNat x)).toArray)).modify 1 (lay ((List.range (2*16)).map λj=>Value.int .u8 (RY j)).toArray)).modify 6 (lay #[.int .u8 0,.int .u8 1,.int .u8 28,.int .u8 2,.int .u8 29,.int .u8 14,.int .u8 24,.int .u8 3,.int .u8 30,.int .u8 22,.int .u8 20,.int .u8 15,.int .u8 25,.int .u8 17,.int .u8 4,.int .u8 8,.int .u8 31,.int .u8 27,.int .u8 13,.int .u8 23,.int .u8 21,.int .u8 19,.int .u8 16,.int .u8 7,.int .u8 26,.int .u8 12,.int .u8 18,.int .u8 6,.int .u8 11,.int .u8 5,.int .u8 10,.int .u8 9])).modify 7 (lay #[.int .u8 0,.int .u8 1,.int .u8 56,.int .u8 2,.int .u8 57,.int .u8 49,.int .u8 28,.int .u8 3,.int .u8 61,.int .u8 58,.int .u8 42,.int .u8 50,.int .u8 38,.int .u8 29,.int .u8 17,.int .u8 4,.int .u8 62,.int .u8 47,.int .u8 59,.int .u8 36,.int .u8 45,.int .u8 43,.int .u8 51,.int .u8 22,.int .u8 53,.int .u8 39,.int .u8 33,.int .u8 30,.int .u8 24,.int .u8 18,.int .u8 12,.int .u8 5,.int .u8 63,.int .u8 55,.int .u8 48,.int .u8 27,.int .u8 60,.int .u8 41,.int .u8 37,.int .u8 16,.int .u8 46,.int .u8 35,.int .u8 44,.int .u8 21,.int .u8 52,.int .u8 32,.int .u8 23,.int .u8 11,.int .u8 54,.int .u8 26,.int .u8 40,.int .u8 15,.int .u8 34,.int .u8 20,.int .u8 31,.int .u8 10,.int .u8 25,.int .u8 14,.int .u8 19,.int .u8 9,.int .u8 13,.int .u8 8,.int .u8 7,.int .u8 6])).modify 3 (lay #[.int .u64 1,.int .u64 10,.int .u64 100,.int .u64 1000,.int .u64 10000,.int .u64 100000,.int .u64 1000000,.int .u64 10000000,.int .u64 100000000,.int .u64 1000000000,.int .u64 10000000000,.int .u64 100000000000,.int .u64 1000000000000,.int .u64 10000000000000,.int .u64 100000000000000,.int .u64 1000000000000000,.int .u64 10000000000000000,.int .u64 100000000000000000,.int .u64 1000000000000000000,.int .u64 10000000000000000000])).modify 5 (lay #[.iface 479 (.pointer (some ⟨(World.holding Tryz.prog os ⟨#[],#[],[]⟩).heap.size+0,0,none⟩))])).modify 4 (lay #[.iface 479 (.pointer (some ⟨(World.holding Tryz.prog os ⟨#[],#[],[]⟩).heap.size+1,0,none⟩))])).push (.cells #[.string ⟨#[118,97,108,117,101,32,111,117,116,32,111,102,32,114,97,110,103,101]⟩] 481 (0,0))).push (.cells #[.string ⟨#[105,110,118,97,108,105,100,32,115,121,110,116,97,120]⟩] 481 (0,0)))}
