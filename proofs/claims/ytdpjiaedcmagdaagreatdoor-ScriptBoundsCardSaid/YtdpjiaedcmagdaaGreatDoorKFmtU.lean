/- strconv.FormatUint at base 10: a walk over the kit's pieces. -/
import Derived.Test.YtdpjiaedcmagdaaGreatDoorProg
import Derived.Test.YtdpjiaedcmagdaaGreatDoorKItoa
import Derived.Lib.AppendIntMem
import Derived.WalkKit
namespace Go.Proofs.YtdpjiaedcmagdaaGreatDoor
open Go.Shelf Go.RowKit Go.Sort Go.Lib Go.Abs
set_option maxRecDepth 100000
set_option maxHeartbeats 6400000 in
theorem fmt_inner (u : Nat) (hu64 : u < 18446744073709551616) (w : World) (htab : Lib.TabIs Tryz.prog w "internal/strconv.uint64pow10" .u64 Lib.pow10Tab) :
    Calls Tryz.prog 48 #[.int .u64 u, .int .i64 10] w fun e w' => e = .returned (.string ⟨(Lib.decDigits u).toArray⟩) ∧ Below w.heap.size w w' := by
  have L := Tryz.laysItoa
  have e283 : ∀ args w, (callFunc 67 args).run Tryz.prog w = .ok (.enter 67 args) w := enters_of Tryz.func67 (by kernel_rfl) rfl
  have e284 : ∀ args w, (callFunc 68 args).run Tryz.prog w = .ok (.enter 68 args) w := enters_of Tryz.func68 (by kernel_rfl) rfl
  have e285 : ∀ args w, (callFunc 69 args).run Tryz.prog w = .ok (.enter 69 args) w := enters_of Tryz.func69 (by kernel_rfl) rfl
  by_cases hs : u < 100
  · go_enter Tryz.func48, Tryz.ntmps48
    go_wp2_with (go_at_fn 67; refine (Any.internal_strconv_small { L with } u hs _).mono ?_; rintro e w' ⟨rfl, rfl⟩)
    go_ret
    exact ⟨rfl, Below.refl _ _⟩
  have hu1 : 1 ≤ u := by omega
  have hnd20 : Lib.nDigits u ≤ 20 := by have := Lib.numDigits_eq u hu1 hu64; split at this <;> omega
  have hal : Tryz.prog.arrayLen 116 = 24 := by kernel_rfl
  have hsl : ∀ W, (Instr.sliceAt 116 (.pointer (some ⟨w.heap.size, 0, none⟩)) none (some (.int .i64 (Lib.nDigits u : Int))) none).run Tryz.prog W = .ok (.slice (some ⟨w.heap.size, 0, none⟩) (Lib.nDigits u) 24) W := fun W => by
    rw [run_sliceAt_array_h W 116 ⟨w.heap.size, 0, none⟩ (by kernel_rfl) .i64 (Lib.nDigits u : Int) (by omega) (by rw [hal]; omega)]
    go_simp
  have hH0 := Lib.holds_zero0 w 116 (Lib.nDigits u) (by omega)
  have HH0 := Lib.hid hH0
  have hfmt : Calls Tryz.prog 69 #[.slice (some ⟨w.heap.size, 0, none⟩) (Lib.nDigits u) 24, .int .u64 u] (w.alloc (.cells Lib.zeros24 116)) fun e w' =>
      e = .returned (.tuple #[]) ∧ ∃ (n v' : Nat) (dk : Array UInt8), w' = (putRow (fun (b : UInt8) => Value.int .u8 (b.toNat : Int)) (w.alloc (.cells Lib.zeros24 116)) w.heap.size 0 dk).drewN n ∧ FmtInv (Lib.nDigits u) u 0 v' dk := by
    have h := Any.internal_strconv_formatBase10 { L with } w.heap.size 0 24 u (Array.replicate (Lib.nDigits u) 0) (w.alloc (.cells Lib.zeros24 116)) hH0 (by rw [Array.size_replicate]; exact Lib.lt_pow_nDigits u) hu64 (by rw [Array.size_replicate]; omega)
    rw [Array.size_replicate] at h
    exact h
  have iu : (100 : Int) ≤ (u : Int) := by omega
  clear hH0 hal
  go_enter Tryz.func48, Tryz.ntmps48
  go_wp2_with (first
    | (go_at_fn 68; refine (Any.internal_strconv_numDigits { L with } u hu1 hu64 _ (Lib.tabIs_alloc htab _)).mono ?_; rintro e w' ⟨rfl, rfl⟩))
  go_at_fn 69
  refine hfmt.mono ?_
  rintro e w' ⟨rfl, k, v', dk, rfl, hF⟩
  have hcv : (convert 49 9 (.slice (some ⟨w.heap.size, 0, none⟩) (Lib.nDigits u) 24)).run Tryz.prog ((putRow (fun (b : UInt8) => Value.int .u8 (b.toNat : Int)) (w.alloc (.cells Lib.zeros24 116)) w.heap.size 0 dk).drewN k) = .ok (.string ⟨(Lib.decDigits u).toArray⟩) ((putRow (fun (b : UInt8) => Value.int .u8 (b.toNat : Int)) (w.alloc (.cells Lib.zeros24 116)) w.heap.size 0 dk).drewN k) := by
    have h := run_convert_bytes_back (P := Tryz.prog) ((putRow (fun (b : UInt8) => Value.int .u8 (b.toNat : Int)) (w.alloc (.cells Lib.zeros24 116)) w.heap.size 0 dk).drewN k) 49 9 5 ⟨w.heap.size, 0, none⟩ 24 (Lib.decDigits u) (by kernel_rfl) (by kernel_rfl) (by kernel_rfl) (fun j hj => by
      rw [Lib.row_is_numeral hF j hj, Lib.add_plain, World.cell?_drewN]
      exact cell?_putRow (fun (b : UInt8) => Value.int .u8 (b.toNat : Int)) _ w.heap.size 0 _ dk HH0.out (by rw [hF.size, Array.size_replicate]) j (by rw [hF.size]; rw [Lib.decDigits_length] at hj; exact hj))
    rw [Lib.decDigits_length] at h
    exact h
  go_wp2
  go_ret
  obtain ⟨os, eo⟩ := Lib.fin_at w (.cells Lib.zeros24 116) dk k 0
  refine ⟨rfl, ?_⟩
  rw [eo]
  exact Lib.below_grow w.heap.size w (Nat.le_refl _) k os
theorem fmt_walk (u : Nat) (hu64 : u < 18446744073709551616) (w : World) (htab : Lib.TabIs Tryz.prog w "internal/strconv.uint64pow10" .u64 Lib.pow10Tab) :
    Calls Tryz.prog 31 #[.int .u64 u, .int .i64 10] w fun e w' => e = .returned (.string ⟨(Lib.decDigits u).toArray⟩) ∧ Below w.heap.size w w' := by
  have e1 : ∀ args w, (callFunc 48 args).run Tryz.prog w = .ok (.enter 48 args) w := enters_of Tryz.func48 (by kernel_rfl) rfl
  go_enter Tryz.func31, Tryz.ntmps31
  go_wp2_with (go_at_fn 48; refine (fmt_inner u hu64 _ htab).mono ?_; rintro e w' ⟨rfl, hb⟩)
  go_ret
  exact ⟨rfl, hb⟩
theorem fmtU_ok {gs out : List GV} (h : fmtUP gs = some out) : FnC Tryz.prog tabsL 31 [] [.sc] gs out := by
  unfold fmtUP at h
  split at h
  rotate_left
  · cases h
  next n b =>
  split at h
  rotate_left
  · cases h
  next hc =>
  cases h
  obtain ⟨⟨h0, h1⟩, rfl⟩ := hc
  letI : TabsOf := Tg [] [] 0
  refine ⟨fun ro w vs hro hvs => ?_, rfl⟩
  simp only [GRs, GR] at hvs
  obtain ⟨_, _, rfl, rfl, _, _, rfl, rfl, rfl⟩ := hvs
  obtain ⟨u, rfl⟩ : ∃ u : Nat, n = u := ⟨n.toNat, by omega⟩
  refine .inr ⟨enters_of Tryz.func31 (by kernel_rfl) rfl _ w, Calls.mono' (fmt_walk u (by omega) w (pow10_tab hro)) ?_⟩
  rintro e w' ⟨rfl, hb⟩
  exact ⟨_, rfl, roAll ro w w', roStep_all hro hb, [_], rfl, by simp [GRs, GR]⟩
end Go.Proofs.YtdpjiaedcmagdaaGreatDoor
