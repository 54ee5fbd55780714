/- script.without: a walk over the kit's contract of ContainsFunc; the closure that captures the runes. -/
import Derived.Test.YtdpjiaedcmagdaaGreatDoorProg
import Derived.Test.YtdpjiaedcmagdaaGreatDoorKRBase
import Derived.Test.YtdpjiaedcmagdaaGreatDoorAbsScr2
import Derived.Shelf.Lay
import Derived.Ground.GgwProg
import Derived.Shelf.GgClosure.StringsIndexFuncTop
import Derived.Lib.Slices
import Derived.WalkKit
namespace Go.Proofs
open Go.Shelf
shelf_lay LaysGw.n17 Ggw 17 at Tryz as Tryz.laysContainsW
end Go.Proofs
namespace Go.Proofs.YtdpjiaedcmagdaaGreatDoor
open Go.Shelf Go.RowKit Go.Lib Go.Abs
set_option maxRecDepth 100000
set_option maxHeartbeats 1000000 in
theorem idx_walk (b off n c : Nat) (zs : List Int) (x : Int) (w : World) (hz : n ≤ zs.length) (hbig : n ≤ 9223372036854775807) (hc : ∀ j, j < zs.length → w.cell? ⟨b, off + j, none⟩ = some (.int .i32 (zs.getD j 0))) :
    Calls Tryz.prog 72 #[.slice (some ⟨b, off, none⟩) n c, .int .i32 x] w fun e w' => e = .returned (.int .i64 (Lib.idxOf (zs.take n) x)) ∧ w' = w := by
  go_enter Tryz.func72, Tryz.ntmps72
  go_wp2
  go_loop [5, 8] (fun _ i => ∃ k : Nat, k ≤ n ∧ i = .int .i64 k ∧ ∀ j, j < k → zs.getD j 0 ≠ x) (fun _ i => match i with | .int _ m => n - m.toNat | _ => 0)
  case atStart => exact ⟨0, Nat.zero_le _, rfl, fun j hj => absurd hj (Nat.not_lt_zero _)⟩
  case round =>
    obtain ⟨k, hk, rfl, hne⟩ := hrel
    have hcell : k < n → w.cell? ⟨b, off + k, none⟩ = some (.int .i32 (zs.getD k 0)) := fun _ => hc k (by omega)
    go_wp2
    · have hlt : k < n := by assumption
      have heq : (x == zs[k]?.getD 0) = true := by assumption
      go_ret
      refine ⟨?_, rfl⟩
      rw [Lib.idxOf_hit zs n k x hlt hz (by simp only [List.getD]; exact (beq_iff_eq.1 heq).symm) hne]
      rfl
    · have hlt : k < n := by assumption
      have hneq : (x == zs[k]?.getD 0) = false := by assumption
      refine ⟨⟨k + 1, by omega, rfl, fun j hj => ?_⟩, ?_⟩
      · by_cases e : j = k
        · subst e
          intro he
          rw [← he] at hneq
          simp at hneq
        · exact hne j (by omega)
      · show n - ((k : Int) + 1).toNat < n - (k : Int).toNat
        omega
    · have hge : ¬ k < n := by assumption
      have : k = n := by omega
      subst this
      go_ret
      refine ⟨?_, rfl⟩
      rw [Lib.idxOf_miss zs k x hne]
      rfl
theorem has_walk (g off c : Nat) (x : Int) (w : World) (h1 : w.cell? ⟨g, off, none⟩ = some (.int .i32 32)) (h2 : w.cell? ⟨g, off + 1, none⟩ = some (.int .i32 10)) :
    Calls Tryz.prog 51 #[.slice (some ⟨g, off, none⟩) 2 c, .int .i32 x] w fun e w' => e = .returned (.bool (decide (0 ≤ Lib.idxOf [32, 10] x))) ∧ w' = w := by
  have hC := idx_walk g off 2 c [32, 10] x w (Nat.le_refl _) (by decide) (fun j hj => by
    match j, hj with
    | 0, _ => exact h1
    | 1, _ => exact h2
    | j + 2, h => exact absurd h (by simp))
  rw [show List.take 2 [(32 : Int), 10] = [32, 10] from rfl] at hC
  go_enter Tryz.func51, Tryz.ntmps51
  go_wp2_with (go_at_call 72; refine hC.mono ?_; rintro e w' ⟨rfl, rfl⟩)
  go_ret
  exact ⟨rfl, rfl⟩
theorem sep_has (x : Nat) : decide (0 ≤ Lib.idxOf [32, 10] (x : Int)) = sepR x := by
  have h : (0 ≤ Lib.idxOf [32, 10] (x : Int)) ↔ sepR x = true := by
    rw [Lib.idxOf_nonneg_iff]
    unfold sepR
    simp only [List.contains_cons, List.contains_nil, Bool.or_false, Bool.or_eq_true, beq_iff_eq]
    omega
  rw [Bool.eq_iff_iff, decide_eq_true_eq, h]
/-- The closure over the runes' cell, at B, as it lay in w. -/
theorem sep_pred (w : World) (B g off c : Nat) (hB : B < w.heap.size) (hg : g < w.heap.size) (hc : w.cell? ⟨B, 0, none⟩ = some (.slice (some ⟨g, off, none⟩) 2 c)) (h1 : w.cell? ⟨g, off, none⟩ = some (.int .i32 32)) (h2 : w.cell? ⟨g, off + 1, none⟩ = some (.int .i32 10)) :
    PredAt Tryz.prog 50 #[.pointer (some ⟨B, 0, none⟩)] encR sepR w := fun W x hb => by
  have hc' : W.cell? ⟨B, 0, none⟩ = some (.slice (some ⟨g, off, none⟩) 2 c) := (hb.cell (p := ⟨B, 0, none⟩) hB).trans hc
  have h1' := (hb.cell (p := ⟨g, off, none⟩) hg).trans h1
  have h2' := (hb.cell (p := ⟨g, off + 1, none⟩) hg).trans h2
  have hC := has_walk g off c (x : Int) W h1' h2'
  rw [sep_has] at hC
  unfold FnGives
  go_enter Tryz.func50, Tryz.ntmps50
  unfold encR
  go_wp2_with (go_at_call 51; refine hC.mono ?_; rintro e w' ⟨rfl, rfl⟩)
  go_ret
  exact ⟨rfl, 0, rfl⟩
set_option maxHeartbeats 1000000 in
theorem without_walk (s : ByteArray) (g off c : Nat) (w : World) (hg : g < w.heap.size) (h1 : w.cell? ⟨g, off, none⟩ = some (.int .i32 32)) (h2 : w.cell? ⟨g, off + 1, none⟩ = some (.int .i32 10)) (hs : s.size ≤ 281474976710656) :
    Calls Tryz.prog 33 #[.string s, .slice (some ⟨g, off, none⟩) 2 c] w fun e w' => e = .returned (.bool (goodW s.data.toList)) ∧ Below w.heap.size w w' := by
  rw [goodW_sep]
  by_cases h0 : s.size = 0
  · have hs : s = ⟨#[]⟩ := ByteArray.ext (Array.eq_empty_of_size_eq_zero h0)
    subst hs
    go_enter Tryz.func33, Tryz.ntmps33
    go_wp2
    go_ret
    exact ⟨rfl, (Below.refl _ w).alloc (Nat.le_refl _) _⟩
  have hne : s.data.toList ≠ [] := fun e => h0 (by have : s.data.toList.length = 0 := by rw [e]; rfl
                                                   simpa using this)
  have hie : s.toList.isEmpty = false := by
    rw [Lib.toList_data]
    cases h : s.data.toList with
    | nil => exact absurd h hne
    | cons a l => rfl
  have hie' : s.data.toList.isEmpty = false := by
    cases h : s.data.toList with
    | nil => exact absurd h hne
    | cons a l => rfl
  rw [hie']
  have hcf : ∀ (W : World) (hW : w.heap.size < W.heap.size) (hb : Below w.heap.size w W) (hc : W.cell? ⟨w.heap.size, 0, none⟩ = some (.slice (some ⟨g, off, none⟩) 2 c)), Calls Tryz.prog 52 #[.string s, .func (.func 50) #[] #[.pointer (some ⟨w.heap.size, 0, none⟩)]] W fun e w' => e = .returned (.bool (s.data.toList.any sepB)) ∧ Below W.heap.size W w' := fun W hW hb hc => by
    refine (Any.strings_ContainsFunc Tryz.laysContainsW 50 #[.pointer (some ⟨w.heap.size, 0, none⟩)] (enters_of Tryz.func50 (by kernel_rfl) rfl) sepR s W (sep_pred W w.heap.size g off c hW (by omega) hc ((hb.cell (p := ⟨g, off, none⟩) hg).trans h1) ((hb.cell (p := ⟨g, off + 1, none⟩) hg).trans h2))).mono ?_
    rintro e w' ⟨rfl, h⟩
    rw [sep_idx]; exact ⟨rfl, h⟩
  go_enter Tryz.func33, Tryz.ntmps33
  go_wp2_with (go_at_call 52; refine (hcf _ (by simp) ((Below.refl _ w).alloc (Nat.le_refl _) _) (by simp)).mono ?_; rintro e w' ⟨rfl, hb⟩)
  go_ret
  exact ⟨by simp, ((Below.refl _ w).alloc (Nat.le_refl _) _).trans (hb.mono (by simp))⟩
theorem without_ok {gs out : List GV} (h : withoutP gs = some out) : FnC Tryz.prog tabsL 33 [] [.sc] gs out := without_FnC without_walk (enters_of Tryz.func33 (by kernel_rfl) rfl) h
end Go.Proofs.YtdpjiaedcmagdaaGreatDoor
