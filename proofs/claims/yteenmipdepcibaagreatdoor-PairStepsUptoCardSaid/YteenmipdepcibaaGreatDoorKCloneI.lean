/- slices.Clone at the queue's items: walks. -/
import Derived.Test.YteenmipdepcibaaGreatDoorProg
import Derived.Test.YteenmipdepcibaaGreatDoorAbsCloneO
import Derived.Shelf.Slices.Clone
import Derived.Shelf.Spec.SlicesGrow
import Derived.Shelf.Lay
set_option linter.unusedVariables false
namespace Go.Proofs.YteenmipdepcibaaGreatDoor
open Go.Shelf Go.RowKit Go.Lib Go.aN
set_option maxRecDepth 100000
theorem afN:(Tryz.prog.info? 158).map (λi=>(i.zero,i.size,i.bytes))=some (some (.agg #[.int .u64 0,.int .u64 0,.string ⟨#[]⟩]),3,32):=by kernel_rfl
set_option maxHeartbeats 2000000 in
theorem alv(a:Addr)(n c:Nat)(news:Q6)(w:World)(hl:news.length=n*3)(hc:∀j u,news[j]? =some u->w.cell? (a.add j)=some u)(h1:∀u∈news,u.oneCell'=true)(hbig:n*32<=140737488355328)(hm:n<=maxLen):
 Calls Tryz.prog 84 #[.slice (some a) n c] w λer w'=>∃v',er=.returned v'/\w'.ownsRow w.heap.size 158 3 v' n news/\Below w.heap.size w w':=by
 obtain⟨i0,hi,hz0,hz1,hz2⟩:=info_parts afN;have q22:∀(w:World)(a:Wz)(n c n' c':Nat),(binOp .eql 138 (.slice a n c) (.slice none n' c')).run Tryz.prog w=.ok (.bool a.isNone) w:=λw a n c n' c'=>Lib.run_eql_slice_nil w _ _ a n c n' c' Tryz.underlying138;have A:Aside (∀j u,news[j]? =some u->w.cell? (a.add j)=some u):=hc;clear hc;go_enter Tryz.func84,Tryz.ntmps84
 go_wp2_with (at_builtin;refine wpList_append_own _ rfl _ _ 138 rfl w.heap.size 158 i0 (.agg #[.int .u64 0,.int .u64 0,.string ⟨#[]⟩]) 3 32 Tryz.underlying138 hi hz0 hz1 hz2 rfl (by decide) _ _ _ rfl (QL w #[] 0 (bV _) (ql _) rfl) a n c news rfl ?qc1 ?qc2 ?qc3 ?qc4 ?qc5 ?qc6 ?_)
 case qc1=>exact hl
 case qc2=>intro j u hj;exact Lib.cell?_alloc_some _ (A.out j u hj)
 case qc3=>exact h1
 case qc4=>omega
 case qc5=>omega
 case qc6=>simp
 intro v' w1 hown hgrow hnil;go_wp2
 go_ret
 refine⟨v',rfl,by simpa using hown,?_⟩;exact((Below.refl _ w).alloc (bV _) _).grown hgrow (by simp) (by intro k hk;simp[Value.ownBlock]at hk;omega)
set_option maxHeartbeats 2000000 in
theorem alx(w:World):Calls Tryz.prog 84 #[.slice none 0 0] w λer w'=>er=.returned (.slice none 0 0)/\w'=w:=by
 have q22:∀(w:World)(a:Wz)(n c n' c':Nat),(binOp .eql 138 (.slice a n c) (.slice none n' c')).run Tryz.prog w=.ok (.bool a.isNone) w:=λw a n c n' c'=>Lib.run_eql_slice_nil w _ _ a n c n' c' Tryz.underlying138;go_enter Tryz.func84,Tryz.ntmps84
 go_wp2
 go_ret
 exact⟨rfl,rfl⟩
theorem azd:sizeT Tryz.prog 158=some 3:=by
 have h:=afN;unfold sizeT;cases e:Tryz.prog.info? 158 with
 |none=>rw[e]at h;cases h
 |some i=>rw[e]at h;simp at h;simp[h]
theorem alp{T:aH}{k:Nat}(hI:∀gs out,T.I k gs=some out->qy 32 3 gs=some out):@dN T Tryz.prog 84 (@LM T.togG k 158):=
 ahi (by decide) azd (by decide) alv alx (enters_of Tryz.func84 (by kernel_rfl) rfl) (by decide) hI
end Go.Proofs.YteenmipdepcibaaGreatDoor
namespace Go.Proofs.YteenmipdepcibaaGreatDoor
open Go.Shelf Go.RowKit Go.Lib Go.aN
set_option maxRecDepth 100000
theorem afO:(Tryz.prog.info? 47).map (λi=>(i.zero,i.size,i.bytes))=some (some (.agg #[.int .u64 0,.int .i64 0,.int .i64 0]),3,24):=by kernel_rfl
set_option maxHeartbeats 2000000 in
theorem alu(a:Addr)(n c:Nat)(news:Q6)(w:World)(hl:news.length=n*3)(hc:∀j u,news[j]? =some u->w.cell? (a.add j)=some u)(h1:∀u∈news,u.oneCell'=true)(hbig:n*24<=140737488355328)(hm:n<=maxLen):
 Calls Tryz.prog 32 #[.slice (some a) n c] w λer w'=>∃v',er=.returned v'/\w'.ownsRow w.heap.size 47 3 v' n news/\Below w.heap.size w w':=by
 obtain⟨i0,hi,hz0,hz1,hz2⟩:=info_parts afO;have q22:∀(w:World)(a:Wz)(n c n' c':Nat),(binOp .eql 45 (.slice a n c) (.slice none n' c')).run Tryz.prog w=.ok (.bool a.isNone) w:=λw a n c n' c'=>Lib.run_eql_slice_nil w _ _ a n c n' c' Tryz.underlying45;have A:Aside (∀j u,news[j]? =some u->w.cell? (a.add j)=some u):=hc;clear hc;go_enter Tryz.func32,Tryz.ntmps32
 go_wp2_with (at_builtin;refine wpList_append_own _ rfl _ _ 45 rfl w.heap.size 47 i0 (.agg #[.int .u64 0,.int .i64 0,.int .i64 0]) 3 24 Tryz.underlying45 hi hz0 hz1 hz2 rfl (by decide) _ _ _ rfl (QL w #[] 0 (bV _) (ql _) rfl) a n c news rfl ?qc1 ?qc2 ?qc3 ?qc4 ?qc5 ?qc6 ?_)
 case qc1=>exact hl
 case qc2=>intro j u hj;exact Lib.cell?_alloc_some _ (A.out j u hj)
 case qc3=>exact h1
 case qc4=>omega
 case qc5=>omega
 case qc6=>simp
 intro v' w1 hown hgrow hnil;go_wp2
 go_ret
 refine⟨v',rfl,by simpa using hown,?_⟩;exact((Below.refl _ w).alloc (bV _) _).grown hgrow (by simp) (by intro k hk;simp[Value.ownBlock]at hk;omega)
set_option maxHeartbeats 2000000 in
theorem aly(w:World):Calls Tryz.prog 32 #[.slice none 0 0] w λer w'=>er=.returned (.slice none 0 0)/\w'=w:=by
 have q22:∀(w:World)(a:Wz)(n c n' c':Nat),(binOp .eql 45 (.slice a n c) (.slice none n' c')).run Tryz.prog w=.ok (.bool a.isNone) w:=λw a n c n' c'=>Lib.run_eql_slice_nil w _ _ a n c n' c' Tryz.underlying45;go_enter Tryz.func32,Tryz.ntmps32
 go_wp2
 go_ret
 exact⟨rfl,rfl⟩
theorem aze:sizeT Tryz.prog 47=some 3:=by
 have h:=afO;unfold sizeT;cases e:Tryz.prog.info? 47 with
 |none=>rw[e]at h;cases h
 |some i=>rw[e]at h;simp at h;simp[h]
theorem alq{T:aH}{k:Nat}(hI:∀gs out,T.I k gs=some out->qy 24 3 gs=some out):@dN T Tryz.prog 32 (@LM T.togG k 47):=
 ahi (by decide) aze (by decide) alu aly (enters_of Tryz.func32 (by kernel_rfl) rfl) (by decide) hI
end Go.Proofs.YteenmipdepcibaaGreatDoor
namespace Go.Proofs.YteenmipdepcibaaGreatDoor
open Go.Shelf Go.RowKit Go.Lib Go.aN
set_option maxRecDepth 100000
theorem asn:(Tryz.prog.info? 55).map (λi=>(i.zero,i.size,i.bytes))=some (some (.agg #[.bool false,.int .u8 0,.int .u8 0,.int .i64 0,.int .i64 0,.int .u8 0]),6,32):=by kernel_rfl
set_option maxHeartbeats 2000000 in
theorem aln(a:Addr)(n c:Nat)(news:Q6)(w:World)(hl:news.length=n*6)(hc:∀j u,news[j]? =some u->w.cell? (a.add j)=some u)(h1:∀u∈news,u.oneCell'=true)(hbig:n*32<=140737488355328)(hm:n<=maxLen):
 Calls Tryz.prog 49 #[.slice (some a) n c] w λer w'=>∃v',er=.returned v'/\w'.ownsRow w.heap.size 55 6 v' n news/\Below w.heap.size w w':=by
 obtain⟨i0,hi,hz0,hz1,hz2⟩:=info_parts asn;have q22:∀(w:World)(a:Wz)(n c n' c':Nat),(binOp .eql 25 (.slice a n c) (.slice none n' c')).run Tryz.prog w=.ok (.bool a.isNone) w:=λw a n c n' c'=>Lib.run_eql_slice_nil w _ _ a n c n' c' Tryz.underlying25;have A:Aside (∀j u,news[j]? =some u->w.cell? (a.add j)=some u):=hc;clear hc;go_enter Tryz.func49,Tryz.ntmps49
 go_wp2_with (at_builtin;refine wpList_append_own _ rfl _ _ 25 rfl w.heap.size 55 i0 (.agg #[.bool false,.int .u8 0,.int .u8 0,.int .i64 0,.int .i64 0,.int .u8 0]) 6 32 Tryz.underlying25 hi hz0 hz1 hz2 rfl (by decide) _ _ _ rfl (QL w #[] 0 (bV _) (ql _) rfl) a n c news rfl ?qc1 ?qc2 ?qc3 ?qc4 ?qc5 ?qc6 ?_)
 case qc1=>exact hl
 case qc2=>intro j u hj;exact Lib.cell?_alloc_some _ (A.out j u hj)
 case qc3=>exact h1
 case qc4=>omega
 case qc5=>omega
 case qc6=>simp
 intro v' w1 hown hgrow hnil;go_wp2
 go_ret
 refine⟨v',rfl,by simpa using hown,?_⟩;exact((Below.refl _ w).alloc (bV _) _).grown hgrow (by simp) (by intro k hk;simp[Value.ownBlock]at hk;omega)
set_option maxHeartbeats 2000000 in
theorem alo(w:World):Calls Tryz.prog 49 #[.slice none 0 0] w λer w'=>er=.returned (.slice none 0 0)/\w'=w:=by
 have q22:∀(w:World)(a:Wz)(n c n' c':Nat),(binOp .eql 25 (.slice a n c) (.slice none n' c')).run Tryz.prog w=.ok (.bool a.isNone) w:=λw a n c n' c'=>Lib.run_eql_slice_nil w _ _ a n c n' c' Tryz.underlying25;go_enter Tryz.func49,Tryz.ntmps49
 go_wp2
 go_ret
 exact⟨rfl,rfl⟩
theorem als{tabs:Qt}{gs out:Q1}(h:qy 32 6 gs=some out):nP Tryz.prog tabs 49 [] [.sc] gs out:=
 adJ (by decide) aln alo (enters_of Tryz.func49 (by kernel_rfl) rfl) (by decide) h
end Go.Proofs.YteenmipdepcibaaGreatDoor
namespace Go.Proofs
open Go.Shelf
shelf_lay_g Lays8.n4 Nm8 4 at Tryz 37 as Tryz.growL
end Go.Proofs
namespace Go.Proofs.YteenmipdepcibaaGreatDoor
open Go.Shelf Go.RowKit Go.Lib Go.aN
set_option maxRecDepth 100000
theorem afM:(Tryz.prog.info? 55).map (λi=>(i.zero,i.size,i.bytes))=some (some (.agg #[.bool false,.int .u8 0,.int .u8 0,.int .i64 0,.int .i64 0,.int .u8 0]),6,32):=by kernel_rfl
theorem azc:sizeT Tryz.prog 55=some 6:=by
 have h:=afM;unfold sizeT;cases e:Tryz.prog.info? 55 with
 |none=>rw[e]at h;cases h
 |some i=>rw[e]at h;simp at h;simp[h]
theorem arj(n:Nat)(w:World)(hn:0<n)(hb:n*32<=140737488355328)(h6:n<=4611686018427387904):
 Calls Tryz.prog 37 #[.slice none 0 0,.int .i64 n] w λer w'=>∃v',er=.returned v'/\w'.ownsRow w.heap.size 55 6 v' 0 []/\Kept w w':=by
 obtain⟨i0,hi,hz0,hz1,hz2⟩:=info_parts afM;refine Calls.mono (Any8.slices_Grow_grow Tryz.growL i0 _ hi hz0 (by rw[hz1];decide) none 0 0 n [] w (bV _) (by omega) (by rw[hz2];omega) (by omega) (by simp) (λ_=>rfl) (λa e=>by cases e)) ?_;have e25:Tryz.growL_ren.t 25=55:=rfl;rintro er w' ⟨rfl,rfl⟩
 simp only[e25];have hG:=grownCap_ge w (0+n) 0 55;have hm:=grownCap_le_maxLen w (0+n) 0 55 (by unfold maxLen;omega);refine⟨_,rfl,QL w.drew _ (grownCap w (0+n) 0 55) (bV _) hm ?_,?_⟩
 ·rw[kH]at hG;simp[size_zeroCells,Value.cells];omega
 ·exact⟨rfl,rfl,rfl,by simp,λbl hbl=>by show(w.heap.push _)[bl]? =_;rw[Nk,ah (by omega)]⟩
theorem arh(w:World):Calls Tryz.prog 37 #[.slice none 0 0,.int .i64 ((0:Nat):Int)] w λer w'=>er=.returned (.slice none 0 0)/\w'=w:=
 Any8.slices_Grow_room Tryz.growL none 0 0 0 w (bV _) (by omega) (by omega) (by omega)
theorem arf{T:aH}{k:Nat}(hI:∀gs out,T.I k gs=some out->Hq 32 gs=some out):@dN T Tryz.prog 37 (@U0 T.togG k 55):=
 auW (by decide) azc (by decide) arj arh (enters_of Tryz.func37 (by kernel_rfl) rfl) hI
