/- slices.Clone at a link's fates: walks. -/
import Derived.Test.YtkoclengoeonnaaGreatDoorProg
import Derived.Shelf.Slices.Clone
import Derived.Test.YtkoclengoeonnaaGreatDoorAbsCloneO
import Derived.Shelf.Spec.SlicesGrow
import Derived.Shelf.Lay
set_option linter.all false
namespace Go.Proofs.YtkoclengoeonnaaGreatDoor
open Go.Shelf Go.RowKit Go.Lib Go.aP
set_option maxRecDepth 100000
def as5:(Tryz.prog.info? 38).map (λi=>(i.zero,i.size,i.bytes))=some (some (.agg #[.bool false,.int .u8 0,.int .u8 0,.int .i64 0,.int .i64 0,.int .u8 0]),6,32):=by kernel_rfl
set_option maxHeartbeats 2000000 in
def amk(a:Addr)(n c:Nat)(news:Q6)(w:World)(hl:news.length=n*6)(hc:∀j u,news[j]? =some u->w.cell? (a.add j)=some u)(h1:∀u∈news,u.oneCell'=true)(hbig:n*32<=140737488355328)(hm:n<=maxLen):
 Calls Tryz.prog 89 #[.slice (some a) n c] w λer w'=>∃v',er=.returned v'/\w'.ownsRow w.heap.size 38 6 v' n news/\Below w.heap.size w w':=by
 obtain⟨i0,hi,hz0,hz1,hz2⟩:=info_parts as5;have q22:∀(w:World)(a:Xs)(n c n' c':Nat),(binOp .eql 25 (.slice a n c) (.slice none n' c')).run Tryz.prog w=.ok (.bool a.isNone) w:=λw a n c n' c'=>Lib.run_eql_slice_nil w _ _ a n c n' c' Tryz.underlying25;have A:Aside (∀j u,news[j]? =some u->w.cell? (a.add j)=some u):=hc;clear hc;go_enter Tryz.func89,Tryz.ntmps89
 go_wp2_with (at_builtin;refine wpList_append_own _ rfl _ _ 25 rfl w.heap.size 38 i0 (.agg #[.bool false,.int .u8 0,.int .u8 0,.int .i64 0,.int .i64 0,.int .u8 0]) 6 32 Tryz.underlying25 hi hz0 hz1 hz2 rfl aX _ _ _ rfl (adF w #[] 0 (cO _) (rZ _) rfl) a n c news rfl ?qc1 ?qc2 ?qc3 ?qc4 ?qc5 ?qc6 ?_)
 case qc1=>exact hl
 case qc2=>intro j u hj;exact Lib.cell?_alloc_some _ (A.out j u hj)
 case qc3=>exact h1
 case qc4=>omega
 case qc5=>omega
 case qc6=>simp
 intro v' w1 hown hgrow hnil;go_wp2
 go_ret
 refine⟨v',rfl,by simpa using hown,?_⟩;exact((Below.refl _ w).alloc (cO _) _).grown hgrow aA (by intro k hk;simp[Value.ownBlock]at hk;omega)
set_option maxHeartbeats 2000000 in
def aml(w:World):Calls Tryz.prog 89 #[.slice none 0 0] w λer w'=>er=.returned (.slice none 0 0)/\w'=w:=by
 have q22:∀(w:World)(a:Xs)(n c n' c':Nat),(binOp .eql 25 (.slice a n c) (.slice none n' c')).run Tryz.prog w=.ok (.bool a.isNone) w:=λw a n c n' c'=>Lib.run_eql_slice_nil w _ _ a n c n' c' Tryz.underlying25;go_enter Tryz.func89,Tryz.ntmps89
 go_wp2
 go_ret
 exact⟨rfl,rfl⟩
def amn{tabs:Qt}{gs out:Q1}(h:DL 32 6 gs=some out):ou Tryz.prog tabs 89 [] [.sc] gs out:=
 aeD aX amk aml (enters_of Tryz.func89 (by kernel_rfl) rfl) aX h
end Go.Proofs.YtkoclengoeonnaaGreatDoor
namespace Go.Proofs
open Go.Shelf
shelf_lay_g Lays8.n4 Nm8 4 at Tryz 56 as Tryz.growL
end Go.Proofs
namespace Go.Proofs.YtkoclengoeonnaaGreatDoor
open Go.Shelf Go.RowKit Go.Lib Go.aP
set_option maxRecDepth 100000
def agH:(Tryz.prog.info? 38).map (λi=>(i.zero,i.size,i.bytes))=some (some (.agg #[.bool false,.int .u8 0,.int .u8 0,.int .i64 0,.int .i64 0,.int .u8 0]),6,32):=by kernel_rfl
def az8:sizeT Tryz.prog 38=some 6:=by
 have h:=agH;unfold sizeT;cases e:Tryz.prog.info? 38 with
 |none=>rw[e]at h;cases h
 |some i=>rw[e]at h;simp at h;simp[h]
def arT(n:Nat)(w:World)(hn:0<n)(hb:n*32<=140737488355328)(h6:n<=4611686018427387904):
 Calls Tryz.prog 56 #[.slice none 0 0,.int .i64 n] w λer w'=>∃v',er=.returned v'/\w'.ownsRow w.heap.size 38 6 v' 0 []/\Kept w w':=by
 obtain⟨i0,hi,hz0,hz1,hz2⟩:=info_parts agH;refine Calls.mono (Any8.slices_Grow_grow Tryz.growL i0 _ hi hz0 (by rw[hz1];decide) none 0 0 n [] w (cO _) ah (by rw[hz2];omega) ah aA (λ_=>rfl) (λa e=>by cases e)) ?_;have e25:Tryz.growL_ren.t 25=38:=rfl;rintro er w' ⟨rfl,rfl⟩
 simp only[e25];have hG:=grownCap_ge w (0+n) 0 38;have hm:=grownCap_le_maxLen w (0+n) 0 38 (by unfold maxLen;omega);refine⟨_,rfl,adF w.drew _ (grownCap w (0+n) 0 38) (cO _) hm ?_,?_⟩
 ·rw[kX]at hG;simp[size_zeroCells,Value.cells];omega
 ·exact⟨rfl,rfl,rfl,aA,λbl hbl=>by show(w.heap.push _)[bl]? =_;rw[He,aj ah]⟩
def arR(w:World):Calls Tryz.prog 56 #[.slice none 0 0,.int .i64 ((0:Nat):Int)] w λer w'=>er=.returned (.slice none 0 0)/\w'=w:=
 Any8.slices_Grow_room Tryz.growL none 0 0 0 w (cO _) ah ah ah
def arQ{T:aJ}{k:Nat}(hI:∀gs out,T.I k gs=some out->IE 32 gs=some out):@dK T Tryz.prog 56 (@VE T.togQ k 38):=
 avI aX az8 aX arT arR (enters_of Tryz.func56 (by kernel_rfl) rfl) hI
