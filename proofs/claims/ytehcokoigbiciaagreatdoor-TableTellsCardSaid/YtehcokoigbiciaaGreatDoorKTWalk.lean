/- TableTells: its walk by hand: a clone of a table is new memory; what is written there changes nothing else. -/
import Derived.Test.YtehcokoigbiciaaGreatDoorKClone
import Derived.Test.YtehcokoigbiciaaGreatDoorAbsKn
import Derived.Deep.RegionWith
import Derived.Deep.LoopGhost
import Derived.Laws.OwnMore
namespace Go.Proofs.YtehcokoigbiciaaGreatDoor
open Go.Shelf Go.RowKit Go.Lib Go.Abs Go.Deep
set_option maxRecDepth 100000
set_option linter.unusedVariables false
set_option linter.unusedSimpArgs false
theorem owns_some {w : World} {b : Nat} {e : TypeId} {s : Nat} {v : Value} {n : Nat} {xs : List Value} (hn : 0 < n) (h : w.ownsRow b e s v n xs) : ∃ g cap, v = .slice (some ⟨g, 0, none⟩) n cap := by
  rcases h.2 with ⟨_, h⟩ | ⟨g, cap, cur, h, _⟩
  · omega
  · exact ⟨g, cap, h⟩
set_option maxHeartbeats 2000000 in
theorem rowClone (a : Addr) (n c : Nat) (N : Int) (news : List Value) (w : World) (hn : 0 < n) (hl : news.length = n * 2) (hc : ∀ j u, news[j]? = some u → w.cell? (a.add j) = some u) (h1 : ∀ u ∈ news, u.oneCell' = true) (hbig : n * 32 ≤ 140737488355328) (hm : n ≤ maxLen) :
    Calls Tryz.prog 25 #[.agg #[.slice (some a) n c, .int .u64 N]] w fun er w' => ∃ v', er = .returned (.agg #[v', .int .u64 N]) ∧ w'.ownsRow (w.heap.size + 2) 45 2 v' n news ∧ Below w.heap.size w w' := by
  have A : Aside ((∀ j u, news[j]? = some u → w.cell? (a.add j) = some u) ∧ 0 < n) := ⟨hc, hn⟩
  clear hc hn
  go_enter Tryz.func25, Tryz.ntmps25
  go_wp2_with fail
  go_region_with (
    go_at_call 43
    refine (clone123 a n c news _ hl ?qc h1 hbig hm).mono ?_
    (case qc => intro j u hj; exact Lib.cell?_alloc_some _ (Lib.cell?_alloc_some _ (A.out.1 j u hj)))
    rintro er w1 ⟨v', rfl, hown, hbel⟩
    have hb0 : w1.heap[w.heap.size]? = some (.cells #[.slice (some a) n c, .int .u64 N] 43) := (by rw [hbel.block _ (by simp <;> omega)]; exact heap_alloc2_old w _ _)
    have hb1 : w1.heap[w.heap.size + 1]? = some (.cells #[.slice none 0 0, .int .u64 0] 43) := (by rw [hbel.block _ (by simp <;> omega)]; exact heap_alloc2_new w _ _)
    have hc1 := cell_of_row _ _ 1 _ _ _ hb0
    have hf0 := frozen_of_row _ _ 0 _ _ hb1
    have hf1 := frozen_of_row _ _ 1 _ _ hb1
    have hd0 := cell_of_row _ _ 0 _ _ _ hb1
    have hd1 := cell_of_row _ _ 1 _ _ _ hb1
    obtain ⟨g, cap, rfl⟩ := owns_some A.out.2 hown
    have A1 : Aside (w1.ownsRow (w.heap.size + 2) 45 2 (.slice (some ⟨g, 0, none⟩) n cap) n news ∧ Below (w.heap.size + 2) ((w.alloc (.cells #[.slice (some a) n c, .int .u64 N] 43)).alloc (.cells #[.slice none 0 0, .int .u64 0] 43)).drew w1 ∧ w1.heap[w.heap.size + 1]? = some (.cells #[.slice none 0 0, .int .u64 0] 43)) := ⟨by simpa using hown, by simpa using hbel, hb1⟩
    clear hown hbel hb0 hb1)
  all_goals
    go_wp2
    (try simp only [Exit.inBlock, Exit.then])
    obtain ⟨o1, o2, o3⟩ := A1.out
    have hz : ((w1.setCell ⟨w.heap.size + 1, 0, none⟩ (.slice (some ⟨g, 0, none⟩) n cap)).setCell ⟨w.heap.size + 1, 1, none⟩ (.int .u64 N)).heap[w.heap.size + 1]? = some (.cells #[.slice (some ⟨g, 0, none⟩) n cap, .int .u64 N] 43) := (heap_setCell_same _ _ 1 _ _ _ (heap_setCell_same w1 _ 0 _ _ _ o3))
    refine bodyPost_ret (results_cell_row rfl _ _ (w.heap.size + 1) 43 _ _ _ rfl hz Tryz.underlying43 rfl (by kernel_rfl)) rfl ⟨_, rfl, ?_, ?_⟩
    · exact ownsRow_setCell_below (ownsRow_setCell_below o1 (by simp) _) (by simp) _
    · have hb : Below w.heap.size w ((w.alloc (.cells #[.slice (some a) n c, .int .u64 N] 43)).alloc (.cells #[.slice none 0 0, .int .u64 0] 43)).drew := (((Below.refl _ w).alloc (Nat.le_refl _) _).alloc (by simp) _).drew
      exact ((hb.trans ⟨o2.os, o2.tape, o2.output, o2.size, fun k hk => o2.block k (by omega)⟩).setCell (by simp) _).setCell (by simp) _
/-- A row as it lies: its entries' address, how many, its number, their cells. -/
structure RD where
  a : Addr
  n : Nat
  c : Nat
  N : Int
  news : List Value
structure RD.In (r : RD) (w : World) (bl off : Nat) : Prop where
  c0 : w.cell? ⟨bl, off, none⟩ = some (.slice (some r.a) r.n r.c)
  c1 : w.cell? ⟨bl, off + 1, none⟩ = some (.int .u64 r.N)
  len : r.news.length = r.n * 2
  cs : ∀ j u, r.news[j]? = some u → w.cell? (r.a.add j) = some u
  one : ∀ u ∈ r.news, u.oneCell' = true
  big : r.n * 32 ≤ 140737488355328
  pos : 0 < r.n
/-- The entries' own blocks. -/
def Ent (H : Nat) (w : World) (x y : Value) : Prop := ∃ g cp N news m, 0 < m ∧ x = .slice (some ⟨g, 0, none⟩) m cp ∧ y = .int .u64 N ∧ w.ownsRow H 45 2 x m news
def TI (H : Nat) (w0 : World) (i : Nat) (v : Value) (w : World) : Prop :=
  Below H w0 w ∧ H ≤ w.heap.size ∧ ∃ xs, w.ownsRow H 43 2 v i xs ∧ ∀ j, j < i → ∃ x y, xs[j * 2]? = some x ∧ xs[j * 2 + 1]? = some y ∧ Ent H w x y
theorem Ent.kept {H : Nat} {w w' : World} {x y v : Value} {i : Nat} {xs : List Value} (h : Ent H w x y) (hv : w.ownsRow H 43 2 v i xs) (hg : w.grownBy w' v.ownBlock) : Ent H w' x y := by
  obtain ⟨g, cp, N, news, m, hm, rfl, rfl, ho⟩ := h
  refine ⟨g, cp, N, news, m, hm, rfl, rfl, ho.kept hg (.inr fun e => ?_)⟩
  simp only [Value.ownBlock] at e
  rcases hv.2 with ⟨rfl, _⟩ | ⟨g', cap, cur, rfl, _, hh, _⟩
  · simp [Value.ownBlock] at e
  · simp only [Value.ownBlock, Option.some.injEq] at e
    subst e
    rcases ho.2 with ⟨h1, _⟩ | ⟨g2, cap2, cur2, h1, _, hh2, _⟩
    · cases h1
    · cases h1
      rw [hh] at hh2
      cases hh2
theorem Ent.grown {H : Nat} {w w' : World} {x y : Value} (h : Ent H w x y) (hg : w.grownBy w' none) : Ent H w' x y := by
  obtain ⟨g, cp, N, news, m, hm, rfl, rfl, ho⟩ := h
  exact ⟨g, cp, N, news, m, hm, rfl, rfl, ho.kept hg (.inr (by simp [Value.ownBlock]))⟩
theorem owns_mono {w : World} {base base' : Nat} {e : TypeId} {size : Nat} {v : Value} {n : Nat} {xs : List Value} (h : w.ownsRow base e size v n xs) (hb : base' ≤ base) : w.ownsRow base' e size v n xs :=
  ⟨h.1, h.2.imp_right fun ⟨g, cap, cur, e1, e2, e3⟩ => ⟨g, cap, cur, e1, Nat.le_trans hb e2, e3⟩⟩
theorem grown_trans {a b c : World} (h : a.grownBy b none) (k : b.grownBy c none) : a.grownBy c none :=
  ⟨k.os.trans h.os, k.tape.trans h.tape, k.output.trans h.output, Nat.le_trans h.size k.size, fun i hi _ => (k.block i (Nat.lt_of_lt_of_le hi h.size) (by simp)).trans (h.block i hi (by simp))⟩
theorem TI.start {w0 w : World} {v : Value} (hg : w0.grownBy w none) (ho : w.ownsRow w0.heap.size 43 2 v 0 []) : TI w0.heap.size w0 0 v w :=
  ⟨(Below.refl _ _).grown hg (Nat.le_refl _) (fun k hk => by cases hk), hg.size, [], ho, fun j hj => by omega⟩
/-- One row more. -/
theorem TI.step {H i : Nat} {w0 w W w' : World} {v v' : Value} {g cp m : Nat} {N : Int} {news : List Value} {xs : List Value} (h : TI H w0 i v w) (hx : w.ownsRow H 43 2 v i xs) (he : ∀ j, j < i → ∃ x y, xs[j * 2]? = some x ∧ xs[j * 2 + 1]? = some y ∧ Ent H w x y)
    (hg : w.grownBy W none) (hm : 0 < m) (hn : W.ownsRow H 45 2 (.slice (some ⟨g, 0, none⟩) m cp) m news) (ho : w'.ownsRow H 43 2 v' (i + 1) (xs ++ [.slice (some ⟨g, 0, none⟩) m cp, .int .u64 N])) (hg' : W.grownBy w' v.ownBlock) : TI H w0 (i + 1) v' w' := by
  obtain ⟨h1, h2, -⟩ := h
  have hxW : W.ownsRow H 43 2 v i xs := hx.kept hg (by cases v.ownBlock <;> simp)
  have hl : xs.length = i * 2 := hx.1
  refine ⟨(h1.grown hg h2 (fun k hk => by cases hk)).grown hg' (Nat.le_trans h2 hg.size) (fun k hk => (hx.lt k hk).1), Nat.le_trans h2 (Nat.le_trans hg.size hg'.size), _, ho, fun j hj => ?_⟩
  by_cases hji : j < i
  · obtain ⟨x, y, e1, e2, e3⟩ := he j hji
    exact ⟨x, y, by rw [List.getElem?_append_left (by omega)]; exact e1, by rw [List.getElem?_append_left (by omega)]; exact e2, (e3.grown hg).kept hxW hg'⟩
  · have : j = i := by omega
    subst this
    refine ⟨.slice (some ⟨g, 0, none⟩) m cp, .int .u64 N, by rw [List.getElem?_append_right (by omega), hl, Nat.sub_self]; rfl, by rw [List.getElem?_append_right (by omega), hl]; simp, ?_⟩
    exact Ent.kept ⟨g, cp, N, news, m, hm, rfl, rfl, hn⟩ hxW hg'
theorem infoR : (Tryz.prog.info? 43).map (fun i => (i.zero, i.size, i.bytes)) = some (some (.agg #[.slice none 0 0, .int .u64 0]), 2, 32) := by kernel_rfl
set_option maxHeartbeats 4000000 in
theorem tblClone (bl off n c : Nat) (w : World) (hr : ∀ j, j < n → ∃ r : RD, RD.In r w bl (off + j * 2)) (hb : n * 32 ≤ 140737488355328) :
    Calls Tryz.prog 14 #[.slice (some ⟨bl, off, none⟩) n c] w fun er w' => ∃ v', er = .returned v' ∧ TI w.heap.size w n v' w' := by
  obtain ⟨i0, hi, hz0, hz1, hz2⟩ := info_parts infoR
  have hmk := fun (w : World) => run_make (P := Tryz.prog) w 27 43 i0 _ Tryz.underlying27 hi hz0 .i64 .i64 0 (n : Int) (by omega) (by omega) (by rw [hz2]; omega) (by omega)
  simp only [Int.toNat_zero, Int.toNat_natCast] at hmk
  have A : Aside (∀ j, j < n → ∃ r : RD, RD.In r w bl (off + j * 2)) := hr
  clear hr
  go_enter Tryz.func14, Tryz.ntmps14
  go_wp2_with fail
  have B : Aside (n * 32 ≤ 140737488355328) := hb
  have hT : TI w.heap.size w 0 (.slice (some ⟨w.heap.size, 0, none⟩) 0 n) (w.alloc (Obj.cells (madeCells #[Value.slice none 0 0, Value.int IntKind.u64 0] (n * 2)) 43)) :=
    TI.start (World.grownBy_alloc _ _ _) (World.ownsRow_made w _ n (Nat.le_refl _) (by unfold maxLen; omega) (size_madeCells _ _))
  clear hmk hb
  go_loopg [3, 11] n (fun k v iv wi => ∃ i : Nat, i ≤ n ∧ k = n - i ∧ iv = .int .i64 i ∧ TI w.heap.size w i v wi)
  case atStart => exact ⟨0, Nat.zero_le _, rfl, rfl, hT⟩
  case round =>
    obtain ⟨i, hin, rfl, rfl, hI⟩ := hrel
    clear hT
    by_cases hlt : i < n
    · obtain ⟨⟨ra, rn, rc, rN, rnews⟩, hR⟩ := A.out i hlt
      obtain ⟨c0, c1, rl, rcs, r1, rbig, rpos⟩ := hR
      simp only at c0 c1 rl rcs r1 rbig rpos
      have hbel := hI.1
      have c0' := (hbel.cell (block_lt_of_cell c0)).trans c0
      have c1' := (hbel.cell (block_lt_of_cell c1)).trans c1
      obtain ⟨xs, hx, he⟩ := hI.2.2
      have D : Aside (TI w.heap.size w i u3 wr ∧ wr.ownsRow w.heap.size 43 2 u3 i xs ∧ (∀ j, j < i → ∃ x y, xs[j * 2]? = some x ∧ xs[j * 2 + 1]? = some y ∧ Ent w.heap.size wr x y) ∧ rnews.length = rn * 2 ∧ (∀ j u, rnews[j]? = some u → wr.cell? (ra.add j) = some u) ∧ (∀ u ∈ rnews, u.oneCell' = true) ∧ rn * 32 ≤ 140737488355328 ∧ 0 < rn) :=
        ⟨hI, hx, he, rl, fun j u hj => (hbel.cell (block_lt_of_cell (rcs j u hj))).trans (rcs j u hj), r1, rbig, rpos⟩
      clear hI hx he rl rcs r1 rbig rpos hbel c0 c1
      go_wp2_with (go_at_call 25; refine (rowClone ra rn rc rN rnews _ D.out.2.2.2.2.2.2.2 D.out.2.2.2.1 ?rc D.out.2.2.2.2.2.1 D.out.2.2.2.2.2.2.1 ?rm).mono ?_)
      case rc => intro j u hj; exact Lib.cell?_alloc_some _ (D.out.2.2.2.2.1 j u hj)
      case rm => have := D.out.2.2.2.2.2.2.1; unfold maxLen; omega
      rintro er w2 ⟨v2, rfl, hown2, hbel2⟩
      obtain ⟨g, cp, rfl⟩ := owns_some D.out.2.2.2.2.2.2.2 hown2
      have hg1 : wr.grownBy w2 none := ⟨hbel2.os, hbel2.tape, hbel2.output, Nat.le_trans (by simp) hbel2.size, fun k hk _ => (hbel2.block k (by simp; omega)).trans (heap_alloc_old wr _ hk)⟩
      have D2 : Aside (w2.ownsRow w.heap.size 45 2 (.slice (some ⟨g, 0, none⟩) rn cp) rn rnews ∧ wr.grownBy w2 none ∧ w2.ownsRow w.heap.size 43 2 u3 i xs) :=
        ⟨owns_mono hown2 (by have := D.out.1.2.1; simp; omega), hg1, D.out.2.1.kept hg1 (by cases u3.ownBlock <;> simp)⟩
      clear hown2 hbel2 hg1
      go_wp2_with (at_builtin; refine wpList_append_own _ rfl _ _ 27 rfl w.heap.size 43 i0 (.agg #[.slice none 0 0, .int .u64 0]) 2 32 Tryz.underlying27 (by assumption) hz0 hz1 hz2 rfl (by decide) u3 i xs rfl ?qo ⟨w2.heap.size, 0, none⟩ 1 1 [.slice (some ⟨g, 0, none⟩) rn cp, .int .u64 rN] ?qs rfl ?qc ?q1 ?qm ?qb ?qz ?_)
      case qo => exact D2.out.2.2.alloc _
      case qs => first | rfl | simp [Act.eval]
      case qc =>
        intro j u hj
        have hr := heap_alloc_new w2 (.cells #[.slice (some ⟨g, 0, none⟩) rn cp, .int .u64 rN] 43)
        have hcr := cell_of_row _ _ j _ _ _ hr
        rw [show (⟨w2.heap.size, 0, none⟩ : Addr).add j = ⟨w2.heap.size, j, none⟩ from by (unfold Addr.add; split <;> simp_all), hcr]
        simpa using hj
      case q1 => intro u hu; simp only [List.mem_cons, List.mem_nil_iff, or_false] at hu; rcases hu with rfl | rfl <;> rfl
      case qm => have := B.out; unfold maxLen; omega
      case qb => have := B.out; omega
      case qz => have := D.out.1.2.1; have := D2.out.2.1.size; simp; omega
      intro v3 w3 hown3 hgrow3 _
      have hT2 : TI w.heap.size w (i + 1) v3 w3 := D.out.1.step D.out.2.1 D.out.2.2.1 (grown_trans D2.out.2.1 (World.grownBy_alloc w2 _ none)) D.out.2.2.2.2.2.2.2 (D2.out.1.alloc _) hown3 hgrow3
      have D3 : Aside (TI w.heap.size w (i + 1) v3 w3) := hT2
      clear hT2 hown3 hgrow3 D D2
      have hw2 : wrap64 ((i : Int) + 1) = (i : Int) + 1 := by have := B.out; unfold wrap64; omega
      go_wp2
      have ek : (i : Int) + 1 = ((i + 1 : Nat) : Int) := by omega
      try simp only [hw2]
      rw [ek]
      go_roundg (n - (i + 1))
      case measure => omega
      case rel => exact ⟨i + 1, by omega, rfl, rfl, D3.out⟩
    · have hil : i = n := by omega
      subst hil
      go_wp2
      go_ret
      exact ⟨_, rfl, hI⟩
set_option maxHeartbeats 4000000 in
theorem tblClone0 (p : Option Addr) (w : World) : Calls Tryz.prog 14 #[.slice p 0 0] w fun er w' => ∃ v', er = .returned v' ∧ TI w.heap.size w 0 v' w' := by
  obtain ⟨i0, hi, hz0, hz1, hz2⟩ := info_parts infoR
  have hmk := fun (w : World) => run_make (P := Tryz.prog) w 27 43 i0 _ Tryz.underlying27 hi hz0 .i64 .i64 0 0 (by omega) (by omega) (by omega) (by omega)
  simp only [Int.toNat_zero, Nat.zero_mul] at hmk
  go_enter Tryz.func14, Tryz.ntmps14
  go_wp2_with fail
  have hT : TI w.heap.size w 0 (.slice (some ⟨w.heap.size, 0, none⟩) 0 0) (w.alloc (Obj.cells (madeCells #[Value.slice none 0 0, Value.int IntKind.u64 0] 0) 43)) :=
    TI.start (World.grownBy_alloc _ _ _) (World.ownsRow_made w _ 0 (Nat.le_refl _) (Nat.zero_le _) (by simp [size_madeCells]))
  clear hmk
  go_loopg [3, 11] 0 (fun k v iv wi => iv = .int .i64 0 ∧ TI w.heap.size w 0 v wi)
  case atStart => exact ⟨rfl, hT⟩
  case round =>
    obtain ⟨rfl, hI⟩ := hrel
    go_wp2
    go_ret
    exact ⟨_, rfl, hI⟩
theorem Ent.set {H : Nat} {w : World} {x y : Value} {g : Nat} {u : Value} (h : Ent H w x y) (hg : ∃ cs, w.heap[g]? = some (.cells cs 45 (0, 0))) (j : Nat) : Ent H (w.setCell ⟨g, j, none⟩ u) x y := by
  obtain ⟨g', cp, N, news, m, hm, rfl, rfl, ho⟩ := h
  by_cases e : g' = g
  · subst e
    exact ⟨g', cp, N, _, m, hm, rfl, rfl, (ho.stored j u).1⟩
  · exact ⟨g', cp, N, news, m, hm, rfl, rfl, ownsRow_setCell_other ho (by simp only [Value.ownBlock, Option.some.injEq, ne_eq]; exact e) u⟩
theorem own_ty {H : Nat} {w : World} {b : Nat} {e : TypeId} {n cap : Nat} {xs : List Value} (h : w.ownsRow H e 2 (.slice (some ⟨b, 0, none⟩) n cap) n xs) : H ≤ b ∧ ∃ cs, w.heap[b]? = some (.cells cs e (0, 0)) := by
  rcases h.2 with ⟨h', _⟩ | ⟨g, cap', cur, h', hb, hg, _⟩
  · simp at h'
  · simp only [Value.slice.injEq, Option.some.injEq, Addr.mk.injEq, and_true, true_and] at h'
    obtain ⟨rfl, rfl⟩ := h'
    exact ⟨hb, _, hg⟩
/-- What lies there. -/
theorem TI.get {H n i : Nat} {w0 w : World} {v : Value} (h : TI H w0 n v w) (hi : i < n) : ∃ b cap g m cp N u, v = .slice (some ⟨b, 0, none⟩) n cap ∧ 0 < m ∧ w.cell? ⟨b, i * 2, none⟩ = some (.slice (some ⟨g, 0, none⟩) m cp) ∧ w.cell? ⟨b, i * 2 + 1, none⟩ = some (.int .u64 N) ∧
    w.frozen? ⟨b, i * 2 + 1, none⟩ = false ∧ w.cell? ⟨g, 0, none⟩ = some u ∧ w.frozen? ⟨g, 0, none⟩ = false ∧ b ≠ g := by
  obtain ⟨h1, h2, xs, ho, he⟩ := h
  obtain ⟨b, cap, rfl⟩ := owns_some (by omega) ho
  obtain ⟨x, y, e1, e2, g, cp, N, news, m, hm, rfl, rfl, hx⟩ := he i hi
  obtain ⟨-, cs, hb⟩ := own_ty ho
  obtain ⟨-, cs', hg⟩ := own_ty hx
  have hl := hx.1
  obtain ⟨u, hu⟩ : ∃ u, news[0]? = some u := ⟨_, List.getElem?_eq_getElem (by omega)⟩
  refine ⟨b, cap, g, m, cp, N, u, rfl, hm, (ho.cellAt _ (by omega)).trans e1, (ho.cellAt _ (by omega)).trans e2, ho.frozenAt _, (hx.cellAt 0 (by omega)).trans hu, hx.frozenAt 0, ?_⟩
  rintro rfl
  rw [hb] at hg
  cases hg
theorem TI.setN {H n i : Nat} {w0 w : World} {b cap : Nat} {N : Int} (h : TI H w0 n (.slice (some ⟨b, 0, none⟩) n cap) w) (hi : i < n) : TI H w0 n (.slice (some ⟨b, 0, none⟩) n cap) (w.setCell ⟨b, i * 2 + 1, none⟩ (.int .u64 N)) := by
  obtain ⟨h1, h2, xs, ho, he⟩ := h
  obtain ⟨hb, cs, hbc⟩ := own_ty ho
  have hl := ho.1
  obtain ⟨s1, s2⟩ := ho.stored (i * 2 + 1) (.int .u64 N)
  refine ⟨h1.setCell hb _, by simpa using h2, _, s1, fun j hj => ?_⟩
  obtain ⟨x, y, e1, e2, e3⟩ := he j hj
  have e4 : Ent H (w.setCell ⟨b, i * 2 + 1, none⟩ (.int .u64 N)) x y := e3.kept ho s2
  by_cases e : j = i
  · subst e
    obtain ⟨g, cp, N0, news, m, hm, rfl, rfl, hx⟩ := e4
    exact ⟨_, _, by rw [List.getElem?_set_ne (by omega)]; exact e1, by rw [List.getElem?_set_self (by omega)], g, cp, N, news, m, hm, rfl, rfl, hx⟩
  · exact ⟨x, y, by rw [List.getElem?_set_ne (by omega)]; exact e1, by rw [List.getElem?_set_ne (by omega)]; exact e2, e4⟩
theorem TI.setK {H n i : Nat} {w0 w : World} {b cap g m cp : Nat} {u : Value} (h : TI H w0 n (.slice (some ⟨b, 0, none⟩) n cap) w) (hi : i < n) (hc : w.cell? ⟨b, i * 2, none⟩ = some (.slice (some ⟨g, 0, none⟩) m cp)) : TI H w0 n (.slice (some ⟨b, 0, none⟩) n cap) (w.setCell ⟨g, 0, none⟩ u) := by
  obtain ⟨h1, h2, xs, ho, he⟩ := h
  obtain ⟨x, y, e1, e2, g', cp', N, news, m', hm, rfl, rfl, hx⟩ := he i hi
  have hh := (ho.cellAt (i * 2) (by have := ho.1; omega)).trans e1
  rw [hc] at hh
  simp only [Option.some.injEq, Value.slice.injEq, Addr.mk.injEq, and_true] at hh
  obtain ⟨rfl, rfl, rfl⟩ := hh
  obtain ⟨hg, cs', hgc⟩ := own_ty hx
  obtain ⟨hb, cs, hbc⟩ := own_ty ho
  have hne : b ≠ g := by
    rintro rfl
    rw [hbc] at hgc
    cases hgc
  refine ⟨h1.setCell hg _, by simpa using h2, xs, ownsRow_setCell_other ho (by simp only [Value.ownBlock, Option.some.injEq, ne_eq]; exact hne) u, fun j hj => ?_⟩
  obtain ⟨x, y, e1, e2, e3⟩ := he j hj
  exact ⟨x, y, e1, e2, e3.set ⟨_, hgc⟩ 0⟩
theorem row_in {ro : Nat → Option Obj} {w : World} (hro : ∀ b o, ro b = some o → w.heap[b]? = some o) {g : GV} {v : Value} (h : isRow g = true) (hv : GR ro g v) :
    v.cells.size = 2 ∧ ∃ r : RD, ∀ bl off, (∀ j u, v.cells.toList[j]? = some u → w.cell? ⟨bl, off + j, none⟩ = some u) → r.In w bl off := by
  unfold isRow at h
  split at h
  rotate_left
  · cases h
  next es N =>
  simp only [Bool.and_eq_true, Bool.not_eq_true', List.isEmpty_eq_false_iff, decide_eq_true_eq] at h
  obtain ⟨⟨hne, hall⟩, hbig⟩ := h
  simp only [GR, GRs] at hv
  obtain ⟨_, rfl, x, _, rfl, hx, _, _, rfl, rfl, rfl⟩ := hv
  rcases hx with ⟨rfl, _⟩ | ⟨bl, off, c, ys, sz, rfl, hc, hys, hsz, hmem⟩
  · exact absurd rfl hne
  obtain ⟨cs, elem, fr, hb, hlen, hcs⟩ := hmem hne
  have hel : ∀ y ∈ ys, y.cells.size = 2 ∧ ∀ u ∈ y.cells.toList, u.oneCell' = true := fun y hy => by
    obtain ⟨k, hk⟩ := List.getElem?_of_mem hy
    have hkl : k < es.length := by rw [hys.len0]; exact (List.getElem?_eq_some_iff.1 hk).1
    obtain ⟨y', hy1, hy2⟩ := hys.at0 (List.getElem?_eq_getElem hkl)
    rw [hk] at hy1; cases hy1
    exact ent_cells (List.all_eq_true.1 hall _ (List.getElem_mem hkl)) hy2
  refine ⟨rfl, ⟨⟨bl, off, none⟩, es.length, c, N, cellsL ys⟩, fun b o hcell => ⟨hcell 0 _ rfl, hcell 1 _ rfl, ?_, ?_, ?_, hbig, ?_⟩⟩
  · letI : TabsOf := Tg [] [] 0
    show (cellsL ys).length = es.length * 2
    rw [cellsL_length (fun y hy => (hel y hy).1), hys.len0]
  · intro j u hj
    show w.cell? ((⟨bl, off, none⟩ : Addr).add j) = some u
    rw [show (⟨bl, off, none⟩ : Addr).add j = ⟨bl, off + j, none⟩ from by (unfold Addr.add; split <;> simp_all)]
    exact cells_at hro hb hcs j u hj
  · intro u hu
    obtain ⟨y, hy, hu⟩ := List.mem_flatMap.1 hu
    exact (hel y hy).2 u hu
  · exact List.length_pos_iff.2 hne
theorem rows_in {ro : Nat → Option Obj} {w : World} (hro : ∀ b o, ro b = some o → w.heap[b]? = some o) {T : List GV} {v : Value} (h : T.all isRow = true) (hv : GR ro (.l T) v) :
    (∃ p, v = .slice p 0 0 ∧ T.length = 0) ∨ ∃ bl off c, v = .slice (some ⟨bl, off, none⟩) T.length c ∧ ∀ j, j < T.length → ∃ r : RD, RD.In r w bl (off + j * 2) := by
  simp only [GR] at hv
  rcases hv with ⟨rfl, p, rfl⟩ | ⟨bl, off, c, ys, sz, rfl, hc, hys, hsz, hmem⟩
  · exact .inl ⟨p, rfl, rfl⟩
  refine .inr ⟨bl, off, c, rfl, ?_⟩
  have hrow : ∀ (k : Nat) (hk : k < T.length), ∃ y, ys[k]? = some y ∧ y.cells.size = 2 ∧ ∃ r : RD, ∀ bl off, (∀ j u, y.cells.toList[j]? = some u → w.cell? ⟨bl, off + j, none⟩ = some u) → r.In w bl off := fun k hk => by
    obtain ⟨y, hy1, hy2⟩ := hys.at0 (List.getElem?_eq_getElem hk)
    exact ⟨y, hy1, row_in hro (List.all_eq_true.1 h _ (List.getElem_mem hk)) hy2⟩
  intro k hk
  obtain ⟨y, e1, e2, r, hr⟩ := hrow k hk
  obtain ⟨cs, elem, fr, hb, hlen, hcs⟩ := hmem (by rintro rfl; simp at hk)
  have hsz2 : ∀ y ∈ ys, y.cells.size = 2 := fun y hy => by
    obtain ⟨i, hi⟩ := List.getElem?_of_mem hy
    have hil : i < T.length := by rw [hys.len0]; exact (List.getElem?_eq_some_iff.1 hi).1
    obtain ⟨y', q1, q2, -⟩ := hrow i hil
    rw [hi] at q1; cases q1
    exact q2
  refine ⟨r, hr bl (off + k * 2) fun j u hj => ?_⟩
  have hj2 : j < 2 := by have := (List.getElem?_eq_some_iff.1 hj).1; simp [e2] at this; exact this
  rw [Nat.add_assoc]
  refine cells_at hro hb hcs (k * 2 + j) u ?_
  letI : TabsOf := Tg [] [] 0
  rw [cellsL_at hsz2 e1 j hj2]
  simpa using hj
variable {tabs : List (Nat × List AV)}
theorem cloneCall {ro0 : Nat → Option Obj} {w0 w : World} {gs : List GV} {vs : List Value} (h : Kn tabs ro0 w0 gs vs w) {T : List GV} {v : Value} (i : Nat) (hg : gs[i]? = some (.l T)) (hv : vs[i]? = some v) (hT : T.all isRow = true) (hb : T.length * 32 ≤ 140737488355328) :
    Calls Tryz.prog 14 #[v] w fun e w' => ∃ v', e = .returned v' ∧ TI w.heap.size w T.length v' w' := by
  obtain ⟨ro, h1, h2, h3⟩ := h
  obtain ⟨x, hx, hgr⟩ := h3.at0 hg
  rw [hv] at hx; cases hx
  rcases rows_in h1.at' hT hgr with ⟨p, rfl, hl⟩ | ⟨bl, off, c, rfl, hr⟩
  · rw [hl]; exact tblClone0 p w
  · exact tblClone bl off T.length c w hr hb
theorem TI.keptW {n : Nat} {w0 w : World} {v : Value} (h : TI w0.heap.size w0 n v w) : Kept w0 w := ⟨h.1.os, h.1.tape, h.1.output, h.1.size, h.1.block⟩
theorem TI.isSl {H n : Nat} {w0 w : World} {v : Value} (h : TI H w0 n v w) : ∃ p c, v = .slice p n c := by
  obtain ⟨-, -, xs, ho, -⟩ := h
  rcases ho.2 with ⟨rfl, rfl⟩ | ⟨g, cap, cur, rfl, _⟩
  · exact ⟨_, _, rfl⟩
  · exact ⟨_, _, rfl⟩
theorem TI.setNK {H n i : Nat} {w0 w : World} {b cap g m cp : Nat} {N : Int} {u : Value} (h : TI H w0 n (.slice (some ⟨b, 0, none⟩) n cap) w) (hi : i < n) (hc : w.cell? ⟨b, i * 2, none⟩ = some (.slice (some ⟨g, 0, none⟩) m cp)) :
    TI H w0 n (.slice (some ⟨b, 0, none⟩) n cap) ((w.setCell ⟨b, i * 2 + 1, none⟩ (.int .u64 N)).setCell ⟨g, 0, none⟩ u) :=
  (h.setN hi).setK hi ((World.cell?_setCell_other _ _ _ _ (by simp)).trans hc)
/-- What the law's callees answer. -/
structure TF (tabs : List (Nat × List AV)) (A B D T RA W RT RB U RD RU : List GV) (e x g m : Int) (y z : Bool) : Prop where
  awake : ∀ ro w, RoOk tabs ro w → CallN Tryz.prog 4 ⟨[]⟩ w fun v w' => v = .bool true ∧ Kept w w'
  fewA : PureC Tryz.prog tabs 5 [] [.l A] [.b true]
  fewB : PureC Tryz.prog tabs 5 [] [.l B] [.b true]
  fewD : PureC Tryz.prog tabs 6 [] [.l D] [.b true]
  ofA : PureC Tryz.prog tabs 7 [] [.l A] [.l T, .i .i64 e]
  toA : PureC Tryz.prog tabs 9 [] [.l A] [.l RA]
  rof : PureC Tryz.prog tabs 8 [] [.l RA] [.l W, .i .i64 e]
  toT : PureC Tryz.prog tabs 9 [] [.l T] [.l RT]
  sameT : PureC Tryz.prog tabs 10 [] [.l RT, .l W] [.b true]
  check : PureC Tryz.prog tabs 11 [] [.l A] [.i .i64 x]
  rcheck : PureC Tryz.prog tabs 12 [] [.l RA] [.i .i64 x]
  same : PureC Tryz.prog tabs 13 [] [.l A, .l B] [.b y]
  toB : PureC Tryz.prog tabs 9 [] [.l B] [.l RB]
  rsame : PureC Tryz.prog tabs 10 [] [.l RA, .l RB] [.b y]
  ofB : PureC Tryz.prog tabs 7 [] [.l B] [.l U, .i .i64 g]
  rows : e = 0 → g = 0 → T.all isRow = true ∧ T.length * 32 ≤ 140737488355328
  get : e = 0 → g = 0 → PureC Tryz.prog tabs 15 [] [.l T, .l D] [.i .u64 m]
  toD : e = 0 → g = 0 → PureC Tryz.prog tabs 17 [] [.l D] [.l RD]
  rget : e = 0 → g = 0 → PureC Tryz.prog tabs 16 [] [.l W, .l RD] [.i .u64 m]
  atl : e = 0 → g = 0 → PureC Tryz.prog tabs 18 [] [.l T, .l U] [.b z]
  toU : e = 0 → g = 0 → PureC Tryz.prog tabs 9 [] [.l U] [.l RU]
  ratl : e = 0 → g = 0 → PureC Tryz.prog tabs 19 [] [.l W, .l RU] [.b z]
theorem Kn.closed (hn : NamesOk Tryz.prog) {f : FuncId} {fn : Func} {c : Code} {ro0 : Nat → Option Obj} {w0 w : World} {gs : List GV} {vs : List Value} (hf : Tryz.prog.funcs[f]? = some fn) (hc : fn.body = some c) (hP : ∀ ro w, RoOk tabs ro w → CallN Tryz.prog f ⟨[]⟩ w fun v w' => v = .bool true ∧ Kept w w') (h : Kn tabs ro0 w0 gs vs w) :
    Calls Tryz.prog f #[] w fun e w' => e = .returned (.bool true) ∧ Kn tabs ro0 w0 gs vs w' := by
  letI : TabsOf := Tg [] [] 0
  obtain ⟨ro, h1, h2⟩ := id h
  refine Calls.mono' (CallN.calls hn hf hc (hP ro w h1)) ?_
  rintro e w' ⟨v, rfl, rfl, hk⟩
  exact ⟨rfl, h.kept hk⟩
set_option maxHeartbeats 4000000 in
theorem lawWalk (hn : NamesOk Tryz.prog) {A B D T RA W RT RB U RD RU : List GV} {e x g m : Int} {y z : Bool} (F : TF tabs A B D T RA W RT RB U RD RU e x g m y z) (va vb vd : Value) (ro : Nat → Option Obj) (w : World) (hk : Kn tabs ro w [.l A, .l B, .l D] [va, vb, vd] w) :
    Calls Tryz.prog 3 #[va, vb, vd] w fun er w' => er = .returned (.bool true) ∧ Kn tabs ro w [.l A, .l B, .l D] [va, vb, vd] w' := by
  have K : Aside (Kn tabs ro w [.l A, .l B, .l D] [va, vb, vd] w) := hk
  clear hk
  go_enter Tryz.func3, Tryz.ntmps3
  go_wp2_with (go_at_call 4; refine (Kn.closed hn Tryz.func4 rfl F.awake K.out).mono ?_)
  rintro er w1 ⟨rfl, hk⟩
  have K1 : Aside (Kn tabs ro w [.l A, .l B, .l D] [va, vb, vd] w1) := hk
  clear hk
  go_wp2_with (go_at_call 5; refine (Kn.callB hn Tryz.func5 rfl F.fewA K1.out [0] (avs := [va]) rfl rfl).mono ?_)
  rintro er w2 ⟨rfl, hk⟩
  have K2 : Aside (Kn tabs ro w [.l A, .l B, .l D] [va, vb, vd] w2) := hk
  clear hk K1
  go_wp2_with (go_at_call 5; refine (Kn.callB hn Tryz.func5 rfl F.fewB K2.out [1] (avs := [vb]) rfl rfl).mono ?_)
  rintro er w3 ⟨rfl, hk⟩
  have K3 : Aside (Kn tabs ro w [.l A, .l B, .l D] [va, vb, vd] w3) := hk
  clear hk K2
  go_wp2_with (go_at_call 6; refine (Kn.callB hn Tryz.func6 rfl F.fewD K3.out [2] (avs := [vd]) rfl rfl).mono ?_)
  rintro er w4 ⟨rfl, hk⟩
  have K4 : Aside (Kn tabs ro w [.l A, .l B, .l D] [va, vb, vd] w4) := hk
  clear hk K3
  go_wp2_with (go_at_call 7; refine (Kn.callLI hn Tryz.func7 rfl F.ofA K4.out [0] (avs := [va]) rfl rfl).mono ?_)
  rintro er w5 ⟨vt, rfl, hk⟩
  have K5 : Aside (Kn tabs ro w [.l A, .l B, .l D, .l T] [va, vb, vd, vt] w5) := hk
  clear hk K4
  go_wp2_with (go_at_call 9; refine (Kn.callL hn Tryz.func9 rfl F.toA K5.out [0] (avs := [va]) rfl rfl).mono ?_)
  rintro er w6 ⟨v4, rfl, hk⟩
  have K6 : Aside (Kn tabs ro w [.l A, .l B, .l D, .l T, .l RA] [va, vb, vd, vt, v4] w6) := hk
  clear hk K5
  go_wp2_with (go_at_call 8; refine (Kn.callLI hn Tryz.func8 rfl F.rof K6.out [4] (avs := [v4]) rfl rfl).mono ?_)
  rintro er w7 ⟨v5, rfl, hk⟩
  have K7 : Aside (Kn tabs ro w [.l A, .l B, .l D, .l T, .l RA, .l W] [va, vb, vd, vt, v4, v5] w7) := hk
  clear hk K6
  go_wp2_with (go_at_call 9; refine (Kn.callL hn Tryz.func9 rfl F.toT K7.out [3] (avs := [vt]) rfl rfl).mono ?_)
  rintro er w8 ⟨v6, rfl, hk⟩
  have K8 : Aside (Kn tabs ro w [.l A, .l B, .l D, .l T, .l RA, .l W, .l RT] [va, vb, vd, vt, v4, v5, v6] w8) := hk
  clear hk K7
  go_wp2_with (go_at_call 10; refine (Kn.callB hn Tryz.func10 rfl F.sameT K8.out [6, 5] (avs := [v6, v5]) rfl rfl).mono ?_)
  rintro er w9 ⟨rfl, hk⟩
  have K9 : Aside (Kn tabs ro w [.l A, .l B, .l D, .l T, .l RA, .l W, .l RT] [va, vb, vd, vt, v4, v5, v6] w9) := hk
  clear hk K8
  go_wp2_with (go_at_call 11; refine (Kn.callI hn Tryz.func11 rfl F.check K9.out [0] (avs := [va]) rfl rfl).mono ?_)
  rintro er w10 ⟨rfl, hk⟩
  have K10 : Aside (Kn tabs ro w [.l A, .l B, .l D, .l T, .l RA, .l W, .l RT] [va, vb, vd, vt, v4, v5, v6] w10) := hk
  clear hk K9
  go_wp2_with (go_at_call 9; refine (Kn.callL hn Tryz.func9 rfl F.toA K10.out [0] (avs := [va]) rfl rfl).mono ?_)
  rintro er w11 ⟨v7, rfl, hk⟩
  have K11 : Aside (Kn tabs ro w [.l A, .l B, .l D, .l T, .l RA, .l W, .l RT, .l RA] [va, vb, vd, vt, v4, v5, v6, v7] w11) := hk
  clear hk K10
  go_wp2_with (go_at_call 12; refine (Kn.callI hn Tryz.func12 rfl F.rcheck K11.out [7] (avs := [v7]) rfl rfl).mono ?_)
  rintro er w12 ⟨rfl, hk⟩
  have K12 : Aside (Kn tabs ro w [.l A, .l B, .l D, .l T, .l RA, .l W, .l RT, .l RA] [va, vb, vd, vt, v4, v5, v6, v7] w12) := hk
  clear hk K11
  go_wp2_with (go_at_call 13; refine (Kn.callB hn Tryz.func13 rfl F.same K12.out [0, 1] (avs := [va, vb]) rfl rfl).mono ?_)
  rintro er w13 ⟨rfl, hk⟩
  have K13 : Aside (Kn tabs ro w [.l A, .l B, .l D, .l T, .l RA, .l W, .l RT, .l RA] [va, vb, vd, vt, v4, v5, v6, v7] w13) := hk
  clear hk K12
  go_wp2_with (go_at_call 9; refine (Kn.callL hn Tryz.func9 rfl F.toA K13.out [0] (avs := [va]) rfl rfl).mono ?_)
  rintro er w14 ⟨v8, rfl, hk⟩
  have K14 : Aside (Kn tabs ro w [.l A, .l B, .l D, .l T, .l RA, .l W, .l RT, .l RA, .l RA] [va, vb, vd, vt, v4, v5, v6, v7, v8] w14) := hk
  clear hk K13
  go_wp2_with (go_at_call 9; refine (Kn.callL hn Tryz.func9 rfl F.toB K14.out [1] (avs := [vb]) rfl rfl).mono ?_)
  rintro er w15 ⟨v9, rfl, hk⟩
  have K15 : Aside (Kn tabs ro w [.l A, .l B, .l D, .l T, .l RA, .l W, .l RT, .l RA, .l RA, .l RB] [va, vb, vd, vt, v4, v5, v6, v7, v8, v9] w15) := hk
  clear hk K14
  go_wp2_with (go_at_call 10; refine (Kn.callB hn Tryz.func10 rfl F.rsame K15.out [8, 9] (avs := [v8, v9]) rfl rfl).mono ?_)
  rintro er w16 ⟨rfl, hk⟩
  have K16 : Aside (Kn tabs ro w [.l A, .l B, .l D, .l T, .l RA, .l W, .l RT, .l RA, .l RA, .l RB] [va, vb, vd, vt, v4, v5, v6, v7, v8, v9] w16) := hk
  clear hk K15
  go_wp2_with (go_at_call 7; refine (Kn.callLI hn Tryz.func7 rfl F.ofB K16.out [1] (avs := [vb]) rfl rfl).mono ?_)
  rintro er w17 ⟨v10, rfl, hk⟩
  have K17 : Aside (Kn tabs ro w [.l A, .l B, .l D, .l T, .l RA, .l W, .l RT, .l RA, .l RA, .l RB, .l U] [va, vb, vd, vt, v4, v5, v6, v7, v8, v9, v10] w17) := hk
  clear hk K16
  have hend : ∀ {w' : World} {gs : List GV} {vs : List Value}, Kn tabs ro w ([.l A, .l B, .l D] ++ gs) ([va, vb, vd] ++ vs) w' → Kn tabs ro w [.l A, .l B, .l D] [va, vb, vd] w' := fun h => h.take rfl
  have E : Aside (Kn tabs ro w [.l A, .l B, .l D] [va, vb, vd] w17) := hend K17.out
  clear hend
  by_cases he : e = 0
  rotate_left
  · go_wp2
    go_ret
    exact ⟨rfl, E.out⟩
  subst he
  by_cases hg : g = 0
  rotate_left
  · go_wp2
    go_ret
    exact ⟨rfl, E.out⟩
  subst hg
  clear E
  go_wp2_with (go_at_call 14; refine (cloneCall K17.out 3 rfl rfl (F.rows rfl rfl).1 (F.rows rfl rfl).2).mono ?_)
  rintro er w18 ⟨vc, rfl, hT⟩
  have T0 : Aside (TI w17.heap.size w17 T.length vc w18) := hT
  clear hT
  obtain ⟨pc, cc, rfl⟩ := T0.out.isSl
  have hn0 : T.length * 32 ≤ 140737488355328 := (F.rows rfl rfl).2
  have NB : Aside (T.length * 32 ≤ 140737488355328) := hn0
  clear hn0
  go_wp2_with fail
  go_loopg [85] T.length (fun k iv wi => ∃ i : Nat, i ≤ T.length ∧ k = T.length - i ∧ iv = .int .i64 i ∧ TI w17.heap.size w17 T.length (.slice pc T.length cc) wi)
  case atStart => exact ⟨0, Nat.zero_le _, rfl, rfl, T0.out⟩
  case round =>
    obtain ⟨i, hin, rfl, rfl, hI⟩ := hrel
    clear T0
    by_cases hlt : i < T.length
    · obtain ⟨b, cap, g, m', cp, N, u, hv, hm, c0, c1, f1, cu, fu, hne⟩ := hI.get hlt
      simp only [Value.slice.injEq, true_and] at hv
      obtain ⟨rfl, rfl⟩ := hv
      have I0 : Aside (TI w17.heap.size w17 T.length (.slice (some ⟨b, 0, none⟩) T.length cc) wr) := hI
      have hm0 : (0 : Int) < (m' : Int) := by omega
      clear hI
      have hw2 : wrap64 ((i : Int) + 1) = (i : Int) + 1 := by have := NB.out; unfold wrap64; omega
      go_wp2_with fail
      try simp only [hw2]
      have ek : (i : Int) + 1 = ((i + 1 : Nat) : Int) := by omega
      rw [ek]
      go_roundg (T.length - (i + 1))
      case measure => omega
      case rel => exact ⟨i + 1, by omega, rfl, rfl, I0.out.setNK hlt c0⟩
    · have hil : i = T.length := by omega
      have I0 : Aside (TI w17.heap.size w17 T.length (.slice pc T.length cc) wr) := hI
      clear hI
      have K18 : Aside (Kn tabs ro w [.l A, .l B, .l D, .l T, .l RA, .l W, .l RT, .l RA, .l RA, .l RB, .l U] [va, vb, vd, vt, v4, v5, v6, v7, v8, v9, v10] wr) := K17.out.kept I0.out.keptW
      clear K17 I0
      go_wp2_with (go_at_call 15; refine (Kn.callI hn Tryz.func15 rfl (F.get rfl rfl) K18.out [3, 2] (avs := [vt, vd]) rfl rfl).mono ?_)
      rintro er w19 ⟨rfl, hk⟩
      have K19 : Aside (Kn tabs ro w [.l A, .l B, .l D, .l T, .l RA, .l W, .l RT, .l RA, .l RA, .l RB, .l U] [va, vb, vd, vt, v4, v5, v6, v7, v8, v9, v10] w19) := hk
      clear hk K18
      go_wp2_with (go_at_call 17; refine (Kn.callL hn Tryz.func17 rfl (F.toD rfl rfl) K19.out [2] (avs := [vd]) rfl rfl).mono ?_)
      rintro er w20 ⟨v11, rfl, hk⟩
      have K20 : Aside (Kn tabs ro w [.l A, .l B, .l D, .l T, .l RA, .l W, .l RT, .l RA, .l RA, .l RB, .l U, .l RD] [va, vb, vd, vt, v4, v5, v6, v7, v8, v9, v10, v11] w20) := hk
      clear hk K19
      go_wp2_with (go_at_call 16; refine (Kn.callI hn Tryz.func16 rfl (F.rget rfl rfl) K20.out [5, 11] (avs := [v5, v11]) rfl rfl).mono ?_)
      rintro er w21 ⟨rfl, hk⟩
      have K21 : Aside (Kn tabs ro w [.l A, .l B, .l D, .l T, .l RA, .l W, .l RT, .l RA, .l RA, .l RB, .l U, .l RD] [va, vb, vd, vt, v4, v5, v6, v7, v8, v9, v10, v11] w21) := hk
      clear hk K20
      go_wp2_with (go_at_call 18; refine (Kn.callB hn Tryz.func18 rfl (F.atl rfl rfl) K21.out [3, 10] (avs := [vt, v10]) rfl rfl).mono ?_)
      rintro er w22 ⟨rfl, hk⟩
      have K22 : Aside (Kn tabs ro w [.l A, .l B, .l D, .l T, .l RA, .l W, .l RT, .l RA, .l RA, .l RB, .l U, .l RD] [va, vb, vd, vt, v4, v5, v6, v7, v8, v9, v10, v11] w22) := hk
      clear hk K21
      go_wp2_with (go_at_call 9; refine (Kn.callL hn Tryz.func9 rfl (F.toU rfl rfl) K22.out [10] (avs := [v10]) rfl rfl).mono ?_)
      rintro er w23 ⟨v12, rfl, hk⟩
      have K23 : Aside (Kn tabs ro w [.l A, .l B, .l D, .l T, .l RA, .l W, .l RT, .l RA, .l RA, .l RB, .l U, .l RD, .l RU] [va, vb, vd, vt, v4, v5, v6, v7, v8, v9, v10, v11, v12] w23) := hk
      clear hk K22
      go_wp2_with (go_at_call 19; refine (Kn.callB hn Tryz.func19 rfl (F.ratl rfl rfl) K23.out [5, 12] (avs := [v5, v12]) rfl rfl).mono ?_)
      rintro er w24 ⟨rfl, hk⟩
      have K24 : Aside (Kn tabs ro w [.l A, .l B, .l D, .l T, .l RA, .l W, .l RT, .l RA, .l RA, .l RB, .l U, .l RD, .l RU] [va, vb, vd, vt, v4, v5, v6, v7, v8, v9, v10, v11, v12] w24) := hk
      clear hk K23
      go_wp2_with (go_at_call 9; refine (Kn.callL hn Tryz.func9 rfl F.toT K24.out [3] (avs := [vt]) rfl rfl).mono ?_)
      rintro er w25 ⟨v13, rfl, hk⟩
      have K25 : Aside (Kn tabs ro w [.l A, .l B, .l D, .l T, .l RA, .l W, .l RT, .l RA, .l RA, .l RB, .l U, .l RD, .l RU, .l RT] [va, vb, vd, vt, v4, v5, v6, v7, v8, v9, v10, v11, v12, v13] w25) := hk
      clear hk K24
      go_wp2_with (go_at_call 10; refine (Kn.callB hn Tryz.func10 rfl F.sameT K25.out [13, 5] (avs := [v13, v5]) rfl rfl).mono ?_)
      rintro er w26 ⟨rfl, hk⟩
      have K26 : Aside (Kn tabs ro w [.l A, .l B, .l D, .l T, .l RA, .l W, .l RT, .l RA, .l RA, .l RB, .l U, .l RD, .l RU, .l RT] [va, vb, vd, vt, v4, v5, v6, v7, v8, v9, v10, v11, v12, v13] w26) := hk
      clear hk K25
      go_wp2
      go_ret
      exact ⟨rfl, K26.out.take (gs := [.l A, .l B, .l D]) (vs := [va, vb, vd]) rfl⟩
set_option maxHeartbeats 4000000 in
theorem lawNo (hn : NamesOk Tryz.prog) {A B D : List GV} {fa fb fd : Bool} (haw : ∀ ro w, RoOk tabs ro w → CallN Tryz.prog 4 ⟨[]⟩ w fun v w' => v = .bool true ∧ Kept w w')
    (hA : PureC Tryz.prog tabs 5 [] [.l A] [.b fa]) (hB : PureC Tryz.prog tabs 5 [] [.l B] [.b fb]) (hD : PureC Tryz.prog tabs 6 [] [.l D] [.b fd]) (hno : (fa && fb && fd) = false) (va vb vd : Value) (ro : Nat → Option Obj) (w : World) (hk : Kn tabs ro w [.l A, .l B, .l D] [va, vb, vd] w) :
    Calls Tryz.prog 3 #[va, vb, vd] w fun er w' => er = .returned (.bool true) ∧ Kn tabs ro w [.l A, .l B, .l D] [va, vb, vd] w' := by
  have K : Aside (Kn tabs ro w [.l A, .l B, .l D] [va, vb, vd] w) := hk
  clear hk
  go_enter Tryz.func3, Tryz.ntmps3
  go_wp2_with (go_at_call 4; refine (Kn.closed hn Tryz.func4 rfl haw K.out).mono ?_)
  rintro er w1 ⟨rfl, hk⟩
  have K1 : Aside (Kn tabs ro w [.l A, .l B, .l D] [va, vb, vd] w1) := hk
  clear hk
  go_wp2_with (go_at_call 5; refine (Kn.callB hn Tryz.func5 rfl hA K1.out [0] (avs := [va]) rfl rfl).mono ?_)
  rintro er w2 ⟨rfl, hk⟩
  have K2 : Aside (Kn tabs ro w [.l A, .l B, .l D] [va, vb, vd] w2) := hk
  clear hk K1
  cases fa with
  | false =>
    go_wp2
    go_ret
    exact ⟨rfl, K2.out⟩
  | true =>
  go_wp2_with (go_at_call 5; refine (Kn.callB hn Tryz.func5 rfl hB K2.out [1] (avs := [vb]) rfl rfl).mono ?_)
  rintro er w3 ⟨rfl, hk⟩
  have K3 : Aside (Kn tabs ro w [.l A, .l B, .l D] [va, vb, vd] w3) := hk
  clear hk K2
  cases fb with
  | false =>
    go_wp2
    go_ret
    exact ⟨rfl, K3.out⟩
  | true =>
  obtain rfl : fd = false := hno
  go_wp2_with (go_at_call 6; refine (Kn.callB hn Tryz.func6 rfl hD K3.out [2] (avs := [vd]) rfl rfl).mono ?_)
  rintro er w4 ⟨rfl, hk⟩
  have K4 : Aside (Kn tabs ro w [.l A, .l B, .l D] [va, vb, vd] w4) := hk
  clear hk K3
  go_wp2
  go_ret
  exact ⟨rfl, K4.out⟩
theorem tt_call {A B D : List GV} (h : ∀ (va vb vd : Value) (ro : Nat → Option Obj) (w : World), Kn tabs ro w [.l A, .l B, .l D] [va, vb, vd] w → Calls Tryz.prog 3 #[va, vb, vd] w fun er w' => er = .returned (.bool true) ∧ Kn tabs ro w [.l A, .l B, .l D] [va, vb, vd] w') :
    FnC Tryz.prog tabs 3 [] [.sc] [.l A, .l B, .l D] [.b true] := by
  refine ⟨fun ro w vs hro hvs => ?_, rfl⟩
  have hvs' := hvs
  simp only [GRs] at hvs
  obtain ⟨va, _, rfl, _, vb, _, rfl, _, vd, _, rfl, _, rfl⟩ := hvs
  letI : TabsOf := Tg [] [] 0
  refine .inr ⟨enters_of Tryz.func3 (by kernel_rfl) rfl _ _, Calls.mono' (h va vb vd ro w (Kn.start hro hvs')) ?_⟩
  rintro e w' ⟨rfl, ro', h1, h2, h3⟩
  exact ⟨_, rfl, ro', h2, [.bool true], rfl, by simp [GRs, GR]⟩
end Go.Proofs.YtehcokoigbiciaaGreatDoor
