/- slices.Clone at a pair's records: walks. -/
import Derived.Test.YthchhlenbkefnaaGreatDoorProg
import Derived.Test.YthchhlenbkefnaaGreatDoorAbsCloneO
import Derived.Shelf.Slices.Clone
import Derived.Shelf.Spec.SlicesGrow
import Derived.Shelf.Lay
set_option linter.all false
namespace Go.Proofs.YthchhlenbkefnaaGreatDoor
open Go.Shelf Go.RowKit Go.Lib Go.aN
set_option maxRecDepth 100000
def ahZ:(Tryz.prog.info? 169).map (λi=>(i.zero,i.size,i.bytes))=some (some (.agg #[.int .u64 0,.int .i64 0,.int .i64 0]),3,24):=by kernel_rfl
set_option maxHeartbeats 2000000 in
def aos(a:Addr)(n c:Nat)(news:Q6)(w:World)(hl:news.length=n*3)(hc:∀j u,news[j]? =some u->w.cell? (a.add j)=some u)(h1:∀u∈news,u.oneCell'=true)(hbig:n*24<=140737488355328)(hm:n<=maxLen):
 Calls Tryz.prog 93 #[.slice (some a) n c] w λer w'=>∃v',er=.returned v'/\w'.ownsRow w.heap.size 169 3 v' n news/\Below w.heap.size w w':=by
 obtain⟨i0,hi,hz0,hz1,hz2⟩:=info_parts ahZ;have q22:∀(w:World)(a:WN)(n c n' c':Nat),(binOp .eql 65 (.slice a n c) (.slice none n' c')).run Tryz.prog w=.ok (.bool a.isNone) w:=λw a n c n' c'=>Lib.run_eql_slice_nil w _ _ a n c n' c' Tryz.underlying65;have A:Aside (∀j u,news[j]? =some u->w.cell? (a.add j)=some u):=hc;clear hc;go_enter Tryz.func93,Tryz.ntmps93
 go_wp2_with (at_builtin;refine wpList_append_own _ rfl _ _ 65 rfl w.heap.size 169 i0 (.agg #[.int .u64 0,.int .i64 0,.int .i64 0]) 3 24 Tryz.underlying65 hi hz0 hz1 hz2 rfl (by decide) _ _ _ rfl (YL w #[] 0 (dD _) (tJ _) rfl) a n c news rfl ?qc1 ?qc2 ?qc3 ?qc4 ?qc5 ?qc6 ?_)
 case qc1=>exact hl
 case qc2=>intro j u hj;exact Lib.cell?_alloc_some _ (A.out j u hj)
 case qc3=>exact h1
 case qc4=>omega
 case qc5=>omega
 case qc6=>simp
 intro v' w1 hown hgrow hnil;go_wp2
 go_ret
 refine⟨v',rfl,by simpa using hown,?_⟩;exact((Below.refl _ w).alloc (dD _) _).grown hgrow (by simp) (by intro k hk;simp[Value.ownBlock]at hk;omega)
set_option maxHeartbeats 2000000 in
def aot(w:World):Calls Tryz.prog 93 #[.slice none 0 0] w λer w'=>er=.returned (.slice none 0 0)/\w'=w:=by
 have q22:∀(w:World)(a:WN)(n c n' c':Nat),(binOp .eql 65 (.slice a n c) (.slice none n' c')).run Tryz.prog w=.ok (.bool a.isNone) w:=λw a n c n' c'=>Lib.run_eql_slice_nil w _ _ a n c n' c' Tryz.underlying65;go_enter Tryz.func93,Tryz.ntmps93
 go_wp2
 go_ret
 exact⟨rfl,rfl⟩
def aDQ:sizeT Tryz.prog 169=some 3:=by
 have h:=ahZ;unfold sizeT;cases e:Tryz.prog.info? 169 with
 |none=>rw[e]at h;cases h
 |some i=>rw[e]at h;simp at h;simp[h]
def aop{T:aH}{k:Nat}(hI:∀gs out,T.I k gs=some out->wP 24 3 gs=some out):@dO T Tryz.prog 93 (@WX T.togY k 169):=
 ayC (by decide) aDQ (by decide) aos aot (enters_of Tryz.func93 (by kernel_rfl) rfl) (by decide) hI
end Go.Proofs.YthchhlenbkefnaaGreatDoor
namespace Go.Proofs.YthchhlenbkefnaaGreatDoor
open Go.Shelf Go.RowKit Go.Lib Go.aN
set_option maxRecDepth 100000
def awf:(Tryz.prog.info? 31).map (λi=>(i.zero,i.size,i.bytes))=some (some (.agg #[.bool false,.int .u8 0,.int .u8 0,.int .i64 0,.int .i64 0,.int .u8 0]),6,32):=by kernel_rfl
set_option maxHeartbeats 2000000 in
def aon(a:Addr)(n c:Nat)(news:Q6)(w:World)(hl:news.length=n*6)(hc:∀j u,news[j]? =some u->w.cell? (a.add j)=some u)(h1:∀u∈news,u.oneCell'=true)(hbig:n*32<=140737488355328)(hm:n<=maxLen):
 Calls Tryz.prog 40 #[.slice (some a) n c] w λer w'=>∃v',er=.returned v'/\w'.ownsRow w.heap.size 31 6 v' n news/\Below w.heap.size w w':=by
 obtain⟨i0,hi,hz0,hz1,hz2⟩:=info_parts awf;have q22:∀(w:World)(a:WN)(n c n' c':Nat),(binOp .eql 25 (.slice a n c) (.slice none n' c')).run Tryz.prog w=.ok (.bool a.isNone) w:=λw a n c n' c'=>Lib.run_eql_slice_nil w _ _ a n c n' c' Tryz.underlying25;have A:Aside (∀j u,news[j]? =some u->w.cell? (a.add j)=some u):=hc;clear hc;go_enter Tryz.func40,Tryz.ntmps40
 go_wp2_with (at_builtin;refine wpList_append_own _ rfl _ _ 25 rfl w.heap.size 31 i0 (.agg #[.bool false,.int .u8 0,.int .u8 0,.int .i64 0,.int .i64 0,.int .u8 0]) 6 32 Tryz.underlying25 hi hz0 hz1 hz2 rfl (by decide) _ _ _ rfl (YL w #[] 0 (dD _) (tJ _) rfl) a n c news rfl ?qc1 ?qc2 ?qc3 ?qc4 ?qc5 ?qc6 ?_)
 case qc1=>exact hl
 case qc2=>intro j u hj;exact Lib.cell?_alloc_some _ (A.out j u hj)
 case qc3=>exact h1
 case qc4=>omega
 case qc5=>omega
 case qc6=>simp
 intro v' w1 hown hgrow hnil;go_wp2
 go_ret
 refine⟨v',rfl,by simpa using hown,?_⟩;exact((Below.refl _ w).alloc (dD _) _).grown hgrow (by simp) (by intro k hk;simp[Value.ownBlock]at hk;omega)
set_option maxHeartbeats 2000000 in
def aoo(w:World):Calls Tryz.prog 40 #[.slice none 0 0] w λer w'=>er=.returned (.slice none 0 0)/\w'=w:=by
 have q22:∀(w:World)(a:WN)(n c n' c':Nat),(binOp .eql 25 (.slice a n c) (.slice none n' c')).run Tryz.prog w=.ok (.bool a.isNone) w:=λw a n c n' c'=>Lib.run_eql_slice_nil w _ _ a n c n' c' Tryz.underlying25;go_enter Tryz.func40,Tryz.ntmps40
 go_wp2
 go_ret
 exact⟨rfl,rfl⟩
def aor{tabs:Qt}{gs out:Q1}(h:wP 32 6 gs=some out):oZ Tryz.prog tabs 40 [] [.sc] gs out:=
 afG (by decide) aon aoo (enters_of Tryz.func40 (by kernel_rfl) rfl) (by decide) h
end Go.Proofs.YthchhlenbkefnaaGreatDoor
namespace Go.Proofs
open Go.Shelf
shelf_lay_g Lays8.n4 Nm8 4 at Tryz 17 as Tryz.growL
end Go.Proofs
namespace Go.Proofs.YthchhlenbkefnaaGreatDoor
open Go.Shelf Go.RowKit Go.Lib Go.aN
set_option maxRecDepth 100000
def ahY:(Tryz.prog.info? 31).map (λi=>(i.zero,i.size,i.bytes))=some (some (.agg #[.bool false,.int .u8 0,.int .u8 0,.int .i64 0,.int .i64 0,.int .u8 0]),6,32):=by kernel_rfl
def aDP:sizeT Tryz.prog 31=some 6:=by
 have h:=ahY;unfold sizeT;cases e:Tryz.prog.info? 31 with
 |none=>rw[e]at h;cases h
 |some i=>rw[e]at h;simp at h;simp[h]
def au4(n:Nat)(w:World)(hn:0<n)(hb:n*32<=140737488355328)(h6:n<=4611686018427387904):
 Calls Tryz.prog 17 #[.slice none 0 0,.int .i64 n] w λer w'=>∃v',er=.returned v'/\w'.ownsRow w.heap.size 31 6 v' 0 []/\Kept w w':=by
 obtain⟨i0,hi,hz0,hz1,hz2⟩:=info_parts ahY;refine Calls.mono (Any8.slices_Grow_grow Tryz.growL i0 _ hi hz0 (by rw[hz1];decide) none 0 0 n [] w (dD _) (by omega) (by rw[hz2];omega) (by omega) (by simp) (λ_=>rfl) (λa e=>by cases e)) ?_;have e25:Tryz.growL_ren.t 25=31:=rfl;rintro er w' ⟨rfl,rfl⟩
 simp only[e25];have hG:=grownCap_ge w (0+n) 0 31;have hm:=grownCap_le_maxLen w (0+n) 0 31 (by unfold maxLen;omega);refine⟨_,rfl,YL w.drew _ (grownCap w (0+n) 0 31) (dD _) hm ?_,?_⟩
 ·rw[lQ]at hG;simp[size_zeroCells,Value.cells];omega
 ·exact⟨rfl,rfl,rfl,by simp,λbl hbl=>by show(w.heap.push _)[bl]? =_;rw[Ij,ah (by omega)]⟩
def au2(w:World):Calls Tryz.prog 17 #[.slice none 0 0,.int .i64 ((0:Nat):Int)] w λer w'=>er=.returned (.slice none 0 0)/\w'=w:=
 Any8.slices_Grow_room Tryz.growL none 0 0 0 w (dD _) (by omega) (by omega) (by omega)
def au1{T:aH}{k:Nat}(hI:∀gs out,T.I k gs=some out->Jp 32 gs=some out):@dO T Tryz.prog 17 (@WY T.togY k 31):=
 ayH (by decide) aDP (by decide) au4 au2 (enters_of Tryz.func17 (by kernel_rfl) rfl) hI
