/- slices.Clone at a link's fates: walks. -/
import Derived.Test.YtogfeeabnklegaaGreatDoorProg
import Derived.Shelf.Slices.Clone
import Derived.Test.YtogfeeabnklegaaGreatDoorAbsCloneO
import Derived.Shelf.Spec.SlicesGrow
import Derived.Shelf.Lay
set_option linter.all false
namespace Go.Proofs.YtogfeeabnklegaaGreatDoor
open Go.Shelf Go.RowKit Go.Lib Go.aP
set_option maxRecDepth 100000
def aww:(Tryz.prog.info? 31).map (λi=>(i.zero,i.size,i.bytes))=some (some (.agg #[.bool false,.int .u8 0,.int .u8 0,.int .i64 0,.int .i64 0,.int .u8 0]),6,32):=by kernel_rfl
set_option maxHeartbeats 2000000 in
def aoZ(a:Addr)(n c:Nat)(news:Q6)(w:World)(hl:news.length=n*6)(hc:∀j u,news[j]? =some u->w.cell? (a.add j)=some u)(h1:∀u∈news,u.oneCell'=true)(hbig:n*32<=140737488355328)(hm:n<=maxLen):
 Calls Tryz.prog 59 #[.slice (some a) n c] w λer w'=>∃v',er=.returned v'/\w'.ownsRow w.heap.size 31 6 v' n news/\Below w.heap.size w w':=by
 obtain⟨i0,hi,hz0,hz1,hz2⟩:=info_parts aww;have q22:∀(w:World)(a:XN)(n c n' c':Nat),(binOp .eql 25 (.slice a n c) (.slice none n' c')).run Tryz.prog w=.ok (.bool a.isNone) w:=λw a n c n' c'=>Lib.run_eql_slice_nil w _ _ a n c n' c' Tryz.underlying25;have A:Aside (∀j u,news[j]? =some u->w.cell? (a.add j)=some u):=hc;clear hc;go_enter Tryz.func59,Tryz.ntmps59
 go_wp2_with (at_builtin;refine wpList_append_own _ rfl _ _ 25 rfl w.heap.size 31 i0 (.agg #[.bool false,.int .u8 0,.int .u8 0,.int .i64 0,.int .i64 0,.int .u8 0]) 6 32 Tryz.underlying25 hi hz0 hz1 hz2 rfl aV _ _ _ rfl (aff w #[] 0 (dP _) (vG _) rfl) a n c news rfl ?qc1 ?qc2 ?qc3 ?qc4 ?qc5 ?qc6 ?_)
 case qc1=>exact hl
 case qc2=>intro j u hj;exact Lib.cell?_alloc_some _ (A.out j u hj)
 case qc3=>exact h1
 case qc4=>omega
 case qc5=>omega
 case qc6=>simp
 intro v' w1 hown hgrow hnil;go_wp2
 go_ret
 refine⟨v',rfl,by simpa using hown,?_⟩;exact((Below.refl _ w).alloc (dP _) _).grown hgrow aA (by intro k hk;simp[Value.ownBlock]at hk;omega)
set_option maxHeartbeats 2000000 in
def ao0(w:World):Calls Tryz.prog 59 #[.slice none 0 0] w λer w'=>er=.returned (.slice none 0 0)/\w'=w:=by
 have q22:∀(w:World)(a:XN)(n c n' c':Nat),(binOp .eql 25 (.slice a n c) (.slice none n' c')).run Tryz.prog w=.ok (.bool a.isNone) w:=λw a n c n' c'=>Lib.run_eql_slice_nil w _ _ a n c n' c' Tryz.underlying25;go_enter Tryz.func59,Tryz.ntmps59
 go_wp2
 go_ret
 exact⟨rfl,rfl⟩
def ao2{tabs:QP}{gs out:Q1}(h:EP 32 6 gs=some out):qG Tryz.prog tabs 59 [] [.sc] gs out:=
 agh aV aoZ ao0 (enters_of Tryz.func59 (by kernel_rfl) rfl) aV h
end Go.Proofs.YtogfeeabnklegaaGreatDoor
namespace Go.Proofs
open Go.Shelf
shelf_lay_g Lays8.n4 Nm8 4 at Tryz 30 as Tryz.growL
end Go.Proofs
namespace Go.Proofs.YtogfeeabnklegaaGreatDoor
open Go.Shelf Go.RowKit Go.Lib Go.aP
set_option maxRecDepth 100000
def aiG:(Tryz.prog.info? 31).map (λi=>(i.zero,i.size,i.bytes))=some (some (.agg #[.bool false,.int .u8 0,.int .u8 0,.int .i64 0,.int .i64 0,.int .u8 0]),6,32):=by kernel_rfl
def aDS:sizeT Tryz.prog 31=some 6:=by
 have h:=aiG;unfold sizeT;cases e:Tryz.prog.info? 31 with
 |none=>rw[e]at h;cases h
 |some i=>rw[e]at h;simp at h;simp[h]
def avl(n:Nat)(w:World)(hn:0<n)(hb:n*32<=140737488355328)(h6:n<=4611686018427387904):
 Calls Tryz.prog 30 #[.slice none 0 0,.int .i64 n] w λer w'=>∃v',er=.returned v'/\w'.ownsRow w.heap.size 31 6 v' 0 []/\Kept w w':=by
 obtain⟨i0,hi,hz0,hz1,hz2⟩:=info_parts aiG;refine Calls.mono (Any8.slices_Grow_grow Tryz.growL i0 _ hi hz0 (by rw[hz1];decide) none 0 0 n [] w (dP _) ah (by rw[hz2];omega) ah aA (λ_=>rfl) (λa e=>by cases e)) ?_;have e25:Tryz.growL_ren.t 25=31:=rfl;rintro er w' ⟨rfl,rfl⟩
 simp only[e25];have hG:=grownCap_ge w (0+n) 0 31;have hm:=grownCap_le_maxLen w (0+n) 0 31 (by unfold maxLen;omega);refine⟨_,rfl,aff w.drew _ (grownCap w (0+n) 0 31) (dP _) hm ?_,?_⟩
 ·rw[mQ]at hG;simp[size_zeroCells,Value.cells];omega
 ·exact⟨rfl,rfl,rfl,aA,λbl hbl=>by show(w.heap.push _)[bl]? =_;rw[P6,aj ah]⟩
def avj(w:World):Calls Tryz.prog 30 #[.slice none 0 0,.int .i64 ((0:Nat):Int)] w λer w'=>er=.returned (.slice none 0 0)/\w'=w:=
 Any8.slices_Grow_room Tryz.growL none 0 0 0 w (dP _) ah ah ah
def avi{T:aJ}{k:Nat}(hI:∀gs out,T.I k gs=some out->J5 32 gs=some out):@fJ T Tryz.prog 30 (@XI T.toiI k 31):=
 ayZ aV aDS aV avl avj (enters_of Tryz.func30 (by kernel_rfl) rfl) hI
