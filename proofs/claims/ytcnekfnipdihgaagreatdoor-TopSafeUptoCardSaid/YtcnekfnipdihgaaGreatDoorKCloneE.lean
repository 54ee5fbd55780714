/- slices.Clone at a pair's records: walks. -/
import Derived.Test.YtcnekfnipdihgaaGreatDoorProg
import Derived.Test.YtcnekfnipdihgaaGreatDoorAbsCloneO
import Derived.Shelf.Slices.Clone
import Derived.Shelf.Spec.SlicesGrow
import Derived.Shelf.Lay
set_option linter.all false
namespace Go.Proofs.YtcnekfnipdihgaaGreatDoor
open Go.Shelf Go.RowKit Go.Lib Go.aP
set_option maxRecDepth 100000
def aiz:(Tryz.prog.info? 174).map (λi=>(i.zero,i.size,i.bytes))=some (some (.agg #[.int .u64 0,.int .i64 0,.int .i64 0]),3,24):=by kernel_rfl
set_option maxHeartbeats 2000000 in
def aoU(a:Addr)(n c:Nat)(news:Qt)(w:World)(hl:news.length=n*3)(hc:∀j u,news[j]? =some u->w.cell? (a.add j)=some u)(h1:∀u∈news,u.oneCell'=true)(hbig:n*24<=140737488355328)(hm:n<=maxLen):
 Calls Tryz.prog 100 #[.slice (some a) n c] w λer w'=>∃v',er=.returned v'/\w'.ownsRow w.heap.size 174 3 v' n news/\Below w.heap.size w w':=by
 obtain⟨i0,hi,hz0,hz1,hz2⟩:=info_parts aiz;have q22:∀(w:World)(a:Ys)(n c n' c':Nat),(binOp .eql 71 (.slice a n c) (.slice none n' c')).run Tryz.prog w=.ok (.bool a.isNone) w:=λw a n c n' c'=>Lib.run_eql_slice_nil w _ _ a n c n' c' Tryz.underlying71;have A:Aside (∀j u,news[j]? =some u->w.cell? (a.add j)=some u):=hc;clear hc;go_enter Tryz.func100,Tryz.ntmps100
 go_wp2_with (at_builtin;refine wpList_append_own _ rfl _ _ 71 rfl w.heap.size 174 i0 (.agg #[.int .u64 0,.int .i64 0,.int .i64 0]) 3 24 Tryz.underlying71 hi hz0 hz1 hz2 rfl aU _ _ _ rfl (Zn w #[] 0 (dK _) (sG _) rfl) a n c news rfl ?qc1 ?qc2 ?qc3 ?qc4 ?qc5 ?qc6 ?_)
 case qc1=>exact hl
 case qc2=>intro j u hj;exact Lib.cell?_alloc_some _ (A.out j u hj)
 case qc3=>exact h1
 case qc4=>omega
 case qc5=>omega
 case qc6=>simp
 intro v' w1 hown hgrow hnil;go_wp2
 go_ret
 refine⟨v',rfl,by simpa using hown,?_⟩;exact((Below.refl _ w).alloc (dK _) _).grown hgrow aA (by intro k hk;simp[Value.ownBlock]at hk;omega)
set_option maxHeartbeats 2000000 in
def aoV(w:World):Calls Tryz.prog 100 #[.slice none 0 0] w λer w'=>er=.returned (.slice none 0 0)/\w'=w:=by
 have q22:∀(w:World)(a:Ys)(n c n' c':Nat),(binOp .eql 71 (.slice a n c) (.slice none n' c')).run Tryz.prog w=.ok (.bool a.isNone) w:=λw a n c n' c'=>Lib.run_eql_slice_nil w _ _ a n c n' c' Tryz.underlying71;go_enter Tryz.func100,Tryz.ntmps100
 go_wp2
 go_ret
 exact⟨rfl,rfl⟩
def aDz:sizeT Tryz.prog 174=some 3:=by
 have h:=aiz;unfold sizeT;cases e:Tryz.prog.info? 174 with
 |none=>rw[e]at h;cases h
 |some i=>rw[e]at h;simp at h;simp[h]
def aoR{T:aJ}{k:Nat}(hI:∀gs out,T.I k gs=some out->xw 24 3 gs=some out):@dP T Tryz.prog 100 (@XE T.toiD k 174):=
 ayy aU aDz aU aoU aoV (enters_of Tryz.func100 (by kernel_rfl) rfl) aU hI
end Go.Proofs.YtcnekfnipdihgaaGreatDoor
namespace Go.Proofs.YtcnekfnipdihgaaGreatDoor
open Go.Shelf Go.RowKit Go.Lib Go.aP
set_option maxRecDepth 100000
def awg:(Tryz.prog.info? 31).map (λi=>(i.zero,i.size,i.bytes))=some (some (.agg #[.bool false,.int .u8 0,.int .u8 0,.int .i64 0,.int .i64 0,.int .u8 0]),6,32):=by kernel_rfl
set_option maxHeartbeats 2000000 in
def aoP(a:Addr)(n c:Nat)(news:Qt)(w:World)(hl:news.length=n*6)(hc:∀j u,news[j]? =some u->w.cell? (a.add j)=some u)(h1:∀u∈news,u.oneCell'=true)(hbig:n*32<=140737488355328)(hm:n<=maxLen):
 Calls Tryz.prog 50 #[.slice (some a) n c] w λer w'=>∃v',er=.returned v'/\w'.ownsRow w.heap.size 31 6 v' n news/\Below w.heap.size w w':=by
 obtain⟨i0,hi,hz0,hz1,hz2⟩:=info_parts awg;have q22:∀(w:World)(a:Ys)(n c n' c':Nat),(binOp .eql 25 (.slice a n c) (.slice none n' c')).run Tryz.prog w=.ok (.bool a.isNone) w:=λw a n c n' c'=>Lib.run_eql_slice_nil w _ _ a n c n' c' Tryz.underlying25;have A:Aside (∀j u,news[j]? =some u->w.cell? (a.add j)=some u):=hc;clear hc;go_enter Tryz.func50,Tryz.ntmps50
 go_wp2_with (at_builtin;refine wpList_append_own _ rfl _ _ 25 rfl w.heap.size 31 i0 (.agg #[.bool false,.int .u8 0,.int .u8 0,.int .i64 0,.int .i64 0,.int .u8 0]) 6 32 Tryz.underlying25 hi hz0 hz1 hz2 rfl aU _ _ _ rfl (Zn w #[] 0 (dK _) (sG _) rfl) a n c news rfl ?qc1 ?qc2 ?qc3 ?qc4 ?qc5 ?qc6 ?_)
 case qc1=>exact hl
 case qc2=>intro j u hj;exact Lib.cell?_alloc_some _ (A.out j u hj)
 case qc3=>exact h1
 case qc4=>omega
 case qc5=>omega
 case qc6=>simp
 intro v' w1 hown hgrow hnil;go_wp2
 go_ret
 refine⟨v',rfl,by simpa using hown,?_⟩;exact((Below.refl _ w).alloc (dK _) _).grown hgrow aA (by intro k hk;simp[Value.ownBlock]at hk;omega)
set_option maxHeartbeats 2000000 in
def aoQ(w:World):Calls Tryz.prog 50 #[.slice none 0 0] w λer w'=>er=.returned (.slice none 0 0)/\w'=w:=by
 have q22:∀(w:World)(a:Ys)(n c n' c':Nat),(binOp .eql 25 (.slice a n c) (.slice none n' c')).run Tryz.prog w=.ok (.bool a.isNone) w:=λw a n c n' c'=>Lib.run_eql_slice_nil w _ _ a n c n' c' Tryz.underlying25;go_enter Tryz.func50,Tryz.ntmps50
 go_wp2
 go_ret
 exact⟨rfl,rfl⟩
def aoT{tabs:QQ}{gs out:Q3}(h:xw 32 6 gs=some out):pO Tryz.prog tabs 50 [] [.sc] gs out:=
 agb aU aoP aoQ (enters_of Tryz.func50 (by kernel_rfl) rfl) aU h
end Go.Proofs.YtcnekfnipdihgaaGreatDoor
namespace Go.Proofs
open Go.Shelf
shelf_lay_g Lays8.n4 Nm8 4 at Tryz 22 as Tryz.growL
end Go.Proofs
namespace Go.Proofs.YtcnekfnipdihgaaGreatDoor
open Go.Shelf Go.RowKit Go.Lib Go.aP
set_option maxRecDepth 100000
def aiy:(Tryz.prog.info? 31).map (λi=>(i.zero,i.size,i.bytes))=some (some (.agg #[.bool false,.int .u8 0,.int .u8 0,.int .i64 0,.int .i64 0,.int .u8 0]),6,32):=by kernel_rfl
def aDy:sizeT Tryz.prog 31=some 6:=by
 have h:=aiy;unfold sizeT;cases e:Tryz.prog.info? 31 with
 |none=>rw[e]at h;cases h
 |some i=>rw[e]at h;simp at h;simp[h]
def au5(n:Nat)(w:World)(hn:0<n)(hb:n*32<=140737488355328)(h6:n<=4611686018427387904):
 Calls Tryz.prog 22 #[.slice none 0 0,.int .i64 n] w λer w'=>∃v',er=.returned v'/\w'.ownsRow w.heap.size 31 6 v' 0 []/\Kept w w':=by
 obtain⟨i0,hi,hz0,hz1,hz2⟩:=info_parts aiy;refine Calls.mono (Any8.slices_Grow_grow Tryz.growL i0 _ hi hz0 (by rw[hz1];decide) none 0 0 n [] w (dK _) ah (by rw[hz2];omega) ah aA (λ_=>rfl) (λa e=>by cases e)) ?_;have e25:Tryz.growL_ren.t 25=31:=rfl;rintro er w' ⟨rfl,rfl⟩
 simp only[e25];have hG:=grownCap_ge w (0+n) 0 31;have hm:=grownCap_le_maxLen w (0+n) 0 31 (by unfold maxLen;omega);refine⟨_,rfl,Zn w.drew _ (grownCap w (0+n) 0 31) (dK _) hm ?_,?_⟩
 ·rw[l9]at hG;simp[size_zeroCells,Value.cells];omega
 ·exact⟨rfl,rfl,rfl,aA,λbl hbl=>by show(w.heap.push _)[bl]? =_;rw[IB,aj ah]⟩
def au3(w:World):Calls Tryz.prog 22 #[.slice none 0 0,.int .i64 ((0:Nat):Int)] w λer w'=>er=.returned (.slice none 0 0)/\w'=w:=
 Any8.slices_Grow_room Tryz.growL none 0 0 0 w (dK _) ah ah ah
def au2{T:aJ}{k:Nat}(hI:∀gs out,T.I k gs=some out->JB 32 gs=some out):@dP T Tryz.prog 22 (@XF T.toiD k 31):=
 ayD aU aDy aU au5 au3 (enters_of Tryz.func22 (by kernel_rfl) rfl) hI
