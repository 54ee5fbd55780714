/- sort.Slice at the program's own rows: the kit's contracts, laid here, and the closure's walk. -/
import Derived.Test.YtehcokoigbiciaaGreatDoorProg
import Derived.Test.YtehcokoigbiciaaGreatDoorAbsSort
import Derived.Shelf.SlSortFuncK.WholeK
import Derived.Shelf.GgSortFunc.Tiny
import Derived.Shelf.Lay
import Derived.Deep.QuietTactic
import Derived.Ground.GgsProg
import Derived.Lib.SortBridge
import Derived.WalkKit
namespace Go.Proofs
open Go.Shelf
shelf_lay LaysGg.n6 Ggs 6 at Tryz as Tryz.sl6
end Go.Proofs
namespace Go.Proofs.YtehcokoigbiciaaGreatDoor
open Go.Shelf Go.RowKit Go.Lib Go.Sort Go.Abs
set_option maxRecDepth 100000

noncomputable def siT : TypeInfo := (Tryz.prog.info? 53).get (by kernel_rfl)
noncomputable def siE : TypeInfo := (Tryz.prog.info? 55).get (by kernel_rfl)
theorem siK (n : Nat) (h2 : 2 ≤ n) : Lib.swapperK n siE 25 = 9 := by
  have a : siE.hasPointers = true := by kernel_rfl
  have b : (siE.bytes == 8) = false := by kernel_rfl
  have c : (n == 0) = false := by simp; omega
  have d : (n == 1) = false := by simp; omega
  simp [Lib.swapperK, a, b, c, d]

set_option maxHeartbeats 2000000 in
/-- THE CLOSURE: it reads the boxed slice, and two rows' keys; nothing turns. -/
theorem less_rows (blk off c Bs size : Nat) (W : World) (G : Nat → ByteArray) (hs : W.cell? ⟨Bs, 0, none⟩ = some (.slice (some ⟨blk, off, none⟩) size c))
    (hc : ∀ t, t < size → W.cell? ⟨blk, off + t * 3 + 2, none⟩ = some (.string (G t))) (i j : Nat) (hi : i < size) (hj : j < size) :
    Calls Tryz.prog 24 #[.int .i64 i, .int .i64 j, .pointer (some ⟨Bs, 0, none⟩)] W fun e w' => e = .returned (.bool (Op.bytesLess (G i).toList (G j).toList)) ∧ ∃ q, w' = W.drewN q := by
  have ci := hc i hi
  have cj := hc j hj
  go_enter Tryz.func24, Tryz.ntmps24
  go_wp2
  go_quiet (fail)
  go_wp2
  go_ret
  exact ⟨rfl, nq, rfl⟩

theorem sortFacts : SortFacts Tryz.prog 23 24 53 where
  big := by
    intro enc lt lb blk off c d w henc hone hO h2 hsz hless hH hblk
    have hS := Any.sort_Slice_cells_eq Tryz.sl6 53 55 siT siE (by kernel_rfl) (by kernel_rfl) (by kernel_rfl) (by kernel_rfl) 25 (fun _ => by kernel_rfl) enc 3 henc (by kernel_rfl) (fun _ => by kernel_rfl) hone lt hO 24 lb
      (enters_of Tryz.func24 (by kernel_rfl) rfl) blk off c d h2 hsz 63 (by rw [siK _ h2]; kernel_rfl) false
      (fun args W => run_callFunc_extern Tryz.func63 (by kernel_rfl) (by kernel_rfl) (by kernel_rfl) (e := Extern.ReflectliteSwapper.swap false) (by kernel_rfl) args W) w hless hH hblk
    exact hS
  tiny := by
    intro p n c lb w h1
    have hK : Lib.swapperK n siE 25 = n + 1 := by
      rcases Nat.eq_zero_or_pos n with h | h
      · subst h; simp [Lib.swapperK]
      · obtain rfl : n = 1 := by omega
        simp [Lib.swapperK]
    exact Any.sort_Slice_tiny Tryz.sl6 53 55 siT siE (by kernel_rfl) (by kernel_rfl) (by kernel_rfl) (by kernel_rfl) 25 (fun _ => by kernel_rfl) p n c h1 (55 + n) (by
      rw [hK]
      rcases Nat.eq_zero_or_pos n with h | h
      · subst h; kernel_rfl
      · obtain rfl : n = 1 := by omega
        kernel_rfl) (.func 24) #[] lb w
  less := less_rows
  enters := enters_of Tryz.func23 (by kernel_rfl) rfl
end Go.Proofs.YtehcokoigbiciaaGreatDoor
