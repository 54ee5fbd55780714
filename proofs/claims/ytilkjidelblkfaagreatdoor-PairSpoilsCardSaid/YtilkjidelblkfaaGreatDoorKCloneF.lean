/- slices.Clone at a link's fates: walks. -/
import Derived.Test.YtilkjidelblkfaaGreatDoorProg
import Derived.Test.YtilkjidelblkfaaGreatDoorAbsTold
import Derived.Shelf.Slices.Clone
import Derived.WalkKit
namespace Go.Proofs.YtilkjidelblkfaaGreatDoor
open Go.Shelf Go.RowKit Go.Lib Go.Abs
set_option maxRecDepth 100000
theorem infoLk : (Tryz.prog.info? 55).map (fun i => (i.zero, i.size, i.bytes)) = some (some (.agg #[.bool false, .int .u8 0, .int .u8 0, .int .i64 0, .int .i64 0, .int .u8 0]), 6, 32) := by kernel_rfl

set_option maxHeartbeats 2000000 in
theorem cloneLk (a : Addr) (n c : Nat) (news : List Value) (w : World) (hl : news.length = n * 6) (hc : ∀ j u, news[j]? = some u → w.cell? (a.add j) = some u) (h1 : ∀ u ∈ news, u.oneCell' = true) (hbig : n * 32 ≤ 140737488355328) (hm : n ≤ maxLen) :
    Calls Tryz.prog 83 #[.slice (some a) n c] w fun er w' => ∃ v', er = .returned v' ∧ w'.ownsRow w.heap.size 55 6 v' n news ∧ Below w.heap.size w w' := by
  obtain ⟨i0, hi, hz0, hz1, hz2⟩ := info_parts infoLk
  have q22 : ∀ (w : World) (a : Option Addr) (n c n' c' : Nat), (binOp .eql 56 (.slice a n c) (.slice none n' c')).run Tryz.prog w = .ok (.bool a.isNone) w := fun w a n c n' c' => Lib.run_eql_slice_nil w _ _ a n c n' c' Tryz.underlying56
  have A : Aside (∀ j u, news[j]? = some u → w.cell? (a.add j) = some u) := hc
  clear hc
  go_enter Tryz.func83, Tryz.ntmps83
  go_wp2_with (at_builtin; refine wpList_append_own _ rfl _ _ 56 rfl w.heap.size 55 i0 (.agg #[.bool false, .int .u8 0, .int .u8 0, .int .i64 0, .int .i64 0, .int .u8 0]) 6 32 Tryz.underlying56 hi hz0 hz1 hz2 rfl (by decide) _ _ _ rfl (World.ownsRow_made w #[] 0 (Nat.le_refl _) (Nat.zero_le _) rfl) a n c news rfl ?qc1 ?qc2 ?qc3 ?qc4 ?qc5 ?qc6 ?_)
  case qc1 => exact hl
  case qc2 => intro j u hj; exact Lib.cell?_alloc_some _ (A.out j u hj)
  case qc3 => exact h1
  case qc4 => omega
  case qc5 => omega
  case qc6 => simp
  intro v' w1 hown hgrow hnil
  go_wp2
  go_ret
  refine ⟨v', rfl, by simpa using hown, ?_⟩
  exact ((Below.refl _ w).alloc (Nat.le_refl _) _).grown hgrow (by simp) (by intro k hk; simp [Value.ownBlock] at hk; omega)
set_option maxHeartbeats 2000000 in
theorem cloneLk_nil (w : World) : Calls Tryz.prog 83 #[.slice none 0 0] w fun er w' => er = .returned (.slice none 0 0) ∧ w' = w := by
  have q22 : ∀ (w : World) (a : Option Addr) (n c n' c' : Nat), (binOp .eql 56 (.slice a n c) (.slice none n' c')).run Tryz.prog w = .ok (.bool a.isNone) w := fun w a n c n' c' => Lib.run_eql_slice_nil w _ _ a n c n' c' Tryz.underlying56
  go_enter Tryz.func83, Tryz.ntmps83
  go_wp2
  go_ret
  exact ⟨rfl, rfl⟩
theorem cloneP_okF {tabs : List (Nat × List AV)} {gs out : List GV} (h : cloneP 32 6 gs = some out) : FnC Tryz.prog tabs 83 [] [.sc] gs out :=
  clone_FnC (by decide) cloneLk cloneLk_nil (enters_of Tryz.func83 (by kernel_rfl) rfl) (by decide) h
end Go.Proofs.YtilkjidelblkfaaGreatDoor
