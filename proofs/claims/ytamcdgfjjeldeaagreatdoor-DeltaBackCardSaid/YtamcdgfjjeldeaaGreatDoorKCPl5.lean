/- The law TableOrder, told of trees. -/
import Derived.Test.YtamcdgfjjeldeaaGreatDoorKCPl4
namespace Go.Proofs.YtamcdgfjjeldeaaGreatDoor
open Go Go.Abs
set_option linter.unusedSimpArgs false
set_option linter.unusedVariables false
set_option maxRecDepth 100000
namespace C
theorem bl_iff (a b : List UInt8) : Op.bytesLess a b = true ↔ a < b := by rw [bytesLess_lt]; simp
theorem bl_not (a b : List UInt8) : Op.bytesLess a b = false ↔ ¬ a < b := by rw [bytesLess_lt]; simp
/-- Rows whose keys rise. -/
def Rise (l : List Row) : Prop := l.Pairwise fun a b => K a < K b
theorem rise_of : ∀ {l : List Row}, (∀ (i j : Nat) (a b : Row), i < j → l[i]? = some a → l[j]? = some b → Op.bytesLess (keyF b.1) (keyF a.1) = false) → adjDup l = false → Rise l
  | [], _, _ => List.Pairwise.nil
  | [a], _, _ => List.pairwise_singleton _ _
  | a :: b :: l, h, hd => by
    simp only [adjDup, Bool.or_eq_false_iff, decide_eq_false_iff_not] at hd
    have ih : Rise (b :: l) := rise_of (fun i j x y hij hx hy => h (i + 1) (j + 1) x y (by omega) (by simpa using hx) (by simpa using hy)) hd.2
    have hab : K a < K b := by
      have h1 := h 0 1 a b (by omega) rfl rfl
      rw [bl_not] at h1
      have h2 := List.not_lt.1 h1
      rcases List.le_iff_lt_or_eq.1 h2 with h3 | h3
      · exact h3
      · exact absurd h3 hd.1
    refine List.Pairwise.cons (fun x hx => ?_) ih
    rcases List.mem_cons.1 hx with rfl | hx
    · exact hab
    · exact List.lt_trans hab ((List.pairwise_cons.1 ih).1 x hx)
theorem ofR_rise {l : List Row} (h : (ofR l).2 = 0) : Rise (ofR l).1 ∧ (ofR l).1.Perm l ∧ l.length ≤ 256 := by
  unfold ofR at h ⊢
  split at h
  · cases h
  next h1 =>
  rw [if_neg h1]
  split at h
  · next h2 =>
    rw [if_pos h2]
    split at h
    · cases h
    · next h3 =>
      rw [if_neg h3]
      rw [Bool.not_eq_true] at h3
      exact ⟨rise_of (sortR_sorted l) h3, sortR_perm l, by omega⟩
  · next h2 => exact absurd h h2
theorem atL_iff : ∀ (b t : List Row), Rise t → Rise b → (atL t b = true ↔ ∀ r ∈ b, ∃ s ∈ t, K s = K r ∧ r.2 ≤ s.2)
  | [], t, _, _ => by simp [atL]
  | r :: rs, t, ht, hb => by
    have hrs := List.pairwise_cons.1 hb
    have hdw := drop_adv (K r) t
    have htd : Rise (t.drop (adv (K r) t)) := ht.sublist (List.drop_sublist _ _)
    have hsub : ∀ s ∈ t.drop (adv (K r) t), s ∈ t := fun s hs => (List.drop_sublist _ _).subset hs
    -- what is not dropped
    have hkeep : ∀ (u : List Row), (∀ s ∈ u, s ∈ t.dropWhile (fun x => Op.bytesLess (K x) (K r)) ∨ K s < K r) → True := fun _ _ => trivial
    have hin : ∀ s ∈ t, ¬ K s < K r → s ∈ t.drop (adv (K r) t) := by
      intro s hs hn
      rw [hdw]
      clear hkeep hsub htd hdw ht
      induction t with
      | nil => simp at hs
      | cons a t ih =>
        rw [List.dropWhile_cons]
        split
        · next ha =>
          rcases List.mem_cons.1 hs with rfl | hs
          · exact absurd ((bl_iff _ _).1 ha) hn
          · exact ih hs
        · exact hs
    have hhead : ∀ s t', t.drop (adv (K r) t) = s :: t' → ¬ K s < K r := by
      intro s t' e
      rw [hdw] at e
      have := List.head?_dropWhile_not (fun x => Op.bytesLess (K x) (K r)) t
      rw [e] at this
      simp only [List.head?_cons, Option.all_some, Bool.not_eq_true'] at this
      intro hlt
      rw [(bl_iff _ _).2 hlt] at this
      cases this
    unfold atL
    cases e : t.drop (adv (K r) t) with
    | nil =>
      simp only [Bool.false_eq_true, false_iff]
      intro h
      obtain ⟨s, hs, hk, _⟩ := h r (by simp)
      have := hin s hs (by rw [hk]; exact List.lt_irrefl _)
      rw [e] at this; simp at this
    | cons s t' =>
      simp only [Bool.and_eq_true, decide_eq_true_iff]
      rw [e] at htd hsub hin
      rw [atL_iff rs (s :: t') htd hrs.2]
      have hst := List.pairwise_cons.1 htd
      constructor
      · rintro ⟨⟨h1, h2⟩, h3⟩ x hx
        rcases List.mem_cons.1 hx with rfl | hx
        · exact ⟨s, hsub s (by simp), h1, h2⟩
        · obtain ⟨y, hy, h4⟩ := h3 x hx
          exact ⟨y, hsub y hy, h4⟩
      · intro h
        obtain ⟨y, hy, hk, hn⟩ := h r (by simp)
        have hy2 := hin y hy (by rw [hk]; exact List.lt_irrefl _)
        have hys : y = s := by
          rcases List.mem_cons.1 hy2 with rfl | hy2
          · rfl
          · have := hst.1 y hy2
            rw [hk] at this
            exact absurd this (hhead s t' e)
        subst hys
        refine ⟨⟨hk, hn⟩, fun x hx => ?_⟩
        obtain ⟨z, hz, h4, h5⟩ := h x (by simp [hx])
        refine ⟨z, hin z hz ?_, h4, h5⟩
        rw [h4]
        exact fun hlt => List.lt_irrefl _ (List.lt_trans hlt (hrs.1 x hx))
theorem atL_refl {t : List Row} (h : Rise t) : atL t t = true := (atL_iff t t h h).2 fun r hr => ⟨r, hr, rfl, Int.le_refl _⟩
theorem atL_nil (t : List Row) : atL t [] = true := by simp [atL]
theorem nil_atL (t : List Row) : atL [] t = decide (t.length = 0) := by
  cases t with
  | nil => rfl
  | cons r rs => simp [atL, adv]
theorem atL_trans {a b c : List Row} (ha : Rise a) (hb : Rise b) (hc : Rise c) (h1 : atL a b = true) (h2 : atL b c = true) : atL a c = true := by
  rw [atL_iff _ _ ha hb] at h1
  rw [atL_iff _ _ hb hc] at h2
  rw [atL_iff _ _ ha hc]
  intro r hr
  obtain ⟨s, hs, k1, n1⟩ := h2 r hr
  obtain ⟨u, hu, k2, n2⟩ := h1 s hs
  exact ⟨u, hu, k2.trans k1, Int.le_trans n1 n2⟩
theorem rise_eq : ∀ {a b : List Row}, Rise a → Rise b → (∀ r ∈ a, r ∈ b) → (∀ r ∈ b, r ∈ a) → a = b
  | [], [], _, _, _, _ => rfl
  | [], b :: _, _, _, _, h => absurd (h b (by simp)) (by simp)
  | a :: _, [], _, _, h, _ => absurd (h a (by simp)) (by simp)
  | x :: a, y :: b, ha, hb, h1, h2 => by
    have ha' := List.pairwise_cons.1 ha
    have hb' := List.pairwise_cons.1 hb
    have hxy : x = y := by
      rcases List.mem_cons.1 (h1 x (by simp)) with e | hx
      · exact e
      · rcases List.mem_cons.1 (h2 y (by simp)) with e | hy
        · exact e.symm
        · exact absurd (List.lt_trans (hb'.1 x hx) (ha'.1 y hy)) (List.lt_irrefl _)
    subst hxy
    rw [rise_eq ha'.2 hb'.2 (fun r hr => ?_) (fun r hr => ?_)]
    · rcases List.mem_cons.1 (h1 r (by simp [hr])) with e | h
      · subst e; exact absurd (ha'.1 _ hr) (List.lt_irrefl _)
      · exact h
    · rcases List.mem_cons.1 (h2 r (by simp [hr])) with e | h
      · subst e; exact absurd (hb'.1 _ hr) (List.lt_irrefl _)
      · exact h
theorem rise_key {a : List Row} (ha : Rise a) {r s : Row} (hr : r ∈ a) (hs : s ∈ a) (hk : K r = K s) : r = s := by
  induction a with
  | nil => simp at hr
  | cons x a ih =>
    have ha' := List.pairwise_cons.1 ha
    rcases List.mem_cons.1 hr with e1 | hr1 <;> rcases List.mem_cons.1 hs with e2 | hs1
    · rw [e1, e2]
    · have := ha'.1 s hs1; rw [← e1, hk] at this; exact absurd this (List.lt_irrefl _)
    · have := ha'.1 r hr1; rw [← e2, hk] at this; exact absurd this (List.lt_irrefl _)
    · exact ih ha'.2 hr1 hs1
theorem atL_antisymm {a b : List Row} (ha : Rise a) (hb : Rise b) (h1 : atL a b = true) (h2 : atL b a = true) : a = b := by
  rw [atL_iff _ _ ha hb] at h1
  rw [atL_iff _ _ hb ha] at h2
  have key : ∀ {a b : List Row}, Rise a → Rise b → (∀ r ∈ b, ∃ s ∈ a, K s = K r ∧ r.2 ≤ s.2) → (∀ r ∈ a, ∃ s ∈ b, K s = K r ∧ r.2 ≤ s.2) → ∀ r ∈ b, r ∈ a := by
    intro a b ha hb h1 h2 r hr
    obtain ⟨s, hs, k1, n1⟩ := h1 r hr
    obtain ⟨u, hu, k2, n2⟩ := h2 s hs
    have hur : u = r := rise_key hb hu hr (k2.trans k1)
    subst hur
    have : s = u := Prod.ext (keyF_inj k1) (Int.le_antisymm n2 n1)
    rw [← this]; exact hs
  exact rise_eq ha hb (key hb ha h2 h1) (key ha hb h1 h2)

theorem few_of {l : List Row} (hl : Rows l) (h : few13 l = true) : ∀ r ∈ (ofR l).1, few12 r.1 = true ∧ r.1.length ≤ 140737488351232 := by
  intro r hr
  have hm : r ∈ l := by
    unfold ofR at hr
    split at hr
    · simp at hr
    split at hr
    · split at hr
      · simp at hr
      · exact (sortR_perm l).mem_iff.1 hr
    · simp at hr
  exact ⟨few13_few h r hm, (hl.2 r hm).1.1⟩
set_option maxHeartbeats 4000000 in
theorem order1 (a b c : List Row) (ha : Rows a) (hb : Rows b) (hc : Rows c) : TT.lim 1 [.l (a.map row), .l (b.map row), .l (c.map row)] = some [.b true] := by
  have fa := few2 a ha
  have fb := few2 b hb
  have fc := few2 c hc
  refine fn_lim rfl rfl ?_ rfl
  cases h1 : few13 a with
  | false => rw [h1] at fa; simp [fa]
  | true =>
  rw [h1] at fa
  cases h2 : few13 b with
  | false => rw [h2] at fb; simp [fa, fb]
  | true =>
  rw [h2] at fb
  cases h3 : few13 c with
  | false => rw [h3] at fc; simp [fa, fb, fc]
  | true =>
  rw [h3] at fc
  have oa := of13 a ha (few13_few h1)
  have ob := of13 b hb (few13_few h2)
  have oc := of13 c hc (few13_few h3)
  by_cases ea : (ofR a).2 = 0
  rotate_left
  · simp [fa, fb, fc, oa, ob, oc, ea]
  by_cases eb : (ofR b).2 = 0
  rotate_left
  · simp [fa, fb, fc, oa, ob, oc, ea, eb]
  by_cases ec : (ofR c).2 = 0
  rotate_left
  · simp [fa, fb, fc, oa, ob, oc, ea, eb, ec]
  obtain ⟨ra, pa, la⟩ := ofR_rise ea
  obtain ⟨rb, pb, lb⟩ := ofR_rise eb
  obtain ⟨rc, pc, lc⟩ := ofR_rise ec
  have qa := few_of ha h1
  have qb := few_of hb h2
  have qc := few_of hc h3
  have la' : (ofR a).1.length ≤ 256 := by rw [pa.length_eq]; exact la
  have lb' : (ofR b).1.length ≤ 256 := by rw [pb.length_eq]; exact lb
  have lc' : (ofR c).1.length ≤ 256 := by rw [pc.length_eq]; exact lc
  rw [ea] at oa
  rw [eb] at ob
  rw [ec] at oc
  generalize (ofR a).1 = x at *
  generalize (ofR b).1 = y at *
  generalize (ofR c).1 = z at *
  have kxx := atLeast24 x x la' la' (fun r hr => (qa r hr).1) (fun r hr => (qa r hr).1)
  have kxn : TT.lim 24 [.l (x.map row), .l []] = _ := atLeast24 x [] la' (by simp) (fun r hr => (qa r hr).1) (fun r hr => by simp at hr)
  have knx : TT.lim 24 [.l [], .l (x.map row)] = _ := atLeast24 [] x (by simp) la' (fun r hr => by simp at hr) (fun r hr => (qa r hr).1)
  have kxy := atLeast24 x y la' lb' (fun r hr => (qa r hr).1) (fun r hr => (qb r hr).1)
  have kyx := atLeast24 y x lb' la' (fun r hr => (qb r hr).1) (fun r hr => (qa r hr).1)
  have kyz := atLeast24 y z lb' lc' (fun r hr => (qb r hr).1) (fun r hr => (qc r hr).1)
  have kxz := atLeast24 x z la' lc' (fun r hr => (qa r hr).1) (fun r hr => (qc r hr).1)
  have ks := same27 x y (by omega) (by omega) (fun r hr => (qa r hr).2) (fun r hr => (qb r hr).2)
  rw [atL_refl ra] at kxx
  rw [atL_nil] at kxn
  rw [nil_atL] at knx
  have hz : (decide ((x.length : Int) = 0)) = decide (x.length = 0) := by rw [Bool.eq_iff_iff]; simp
  cases hxy : atL x y with
  | false =>
    rw [hxy] at kxy
    simp [fa, fb, fc, oa, ob, oc, kxx, kxn, knx, kxy]
  | true =>
    rw [hxy] at kxy
    have htr : atL y z = true → atL x z = true := fun h => atL_trans ra rb rc hxy h
    cases hyx : atL y x with
    | true =>
      rw [hyx] at kyx
      have heq : x = y := atL_antisymm ra rb hxy hyx
      have hs : decide (x = y) = true := by simp [heq]
      rw [hs] at ks
      cases hyz : atL y z with
      | false => rw [hyz] at kyz; simp [fa, fb, fc, oa, ob, oc, kxx, kxn, knx, kxy, kyx, ks, kyz]
      | true => rw [hyz] at kyz; rw [htr hyz] at kxz; simp [fa, fb, fc, oa, ob, oc, kxx, kxn, knx, kxy, kyx, ks, kyz, kxz]
    | false =>
      rw [hyx] at kyx
      cases hyz : atL y z with
      | false => rw [hyz] at kyz; simp [fa, fb, fc, oa, ob, oc, kxx, kxn, knx, kxy, kyx, kyz]
      | true => rw [hyz] at kyz; rw [htr hyz] at kxz; simp [fa, fb, fc, oa, ob, oc, kxx, kxn, knx, kxy, kyx, kyz, kxz]

/-! ### Arguments -/
theorem ents_of {cs : List GV} {r0 : List GV} (h : GTy.hasL [.list true [.str, .str], .int .u64] cs) : ∃ r : Row, (Ents r.1 ∧ 0 ≤ r.2 ∧ r.2 < 18446744073709551616) ∧ GV.g cs = row r := by
  obtain ⟨g, l, rfl, h1, h⟩ := hasL_cons h
  obtain ⟨n, l, rfl, h2, h⟩ := hasL_cons h
  obtain rfl := hasL_nil h
  obtain ⟨n, rfl, n1, n2⟩ := has_u64 h2
  obtain ⟨xs, rfl, h3, h4⟩ := has_list h1
  obtain ⟨d, hd, rfl⟩ : ∃ d : List Ent, (∀ x ∈ d, x.1.length ≤ 140737488351232 ∧ x.2.length ≤ 140737488351232) ∧ xs = d.map ent := list_map fun x hx => by
    obtain ⟨k1, k2⟩ := h4 x hx
    cases x <;> simp [GV.scalar] at k2
    obtain ⟨a, l, e1, a1, k1⟩ := hasL_cons k1
    obtain ⟨b, l, rfl, b1, k1⟩ := hasL_cons k1
    obtain rfl := hasL_nil k1
    obtain ⟨s, rfl, s1⟩ := has_str a1
    obtain ⟨u, rfl, u1⟩ := has_str b1
    simp only [cells_g] at e1
    subst e1
    exact ⟨(s, u), ⟨Nat.le_trans s1 (by decide), Nat.le_trans u1 (by decide)⟩, rfl⟩
  exact ⟨(d, n), ⟨⟨by have := Nat.le_trans h3 (by decide : reachBytes ≤ 140737488351232); simpa using this, hd⟩, n1, n2⟩, rfl⟩
abbrev rowsTy : List GTy := [.list true [.list true [.str, .str], .int .u64]]
theorem rows_of {g : GV} (h : (GTy.list true [.list true [.str, .str], .int .u64]).has g) : ∃ l : List Row, Rows l ∧ g = .l (l.map row) := by
  obtain ⟨xs, rfl, h1, h2⟩ := has_list h
  obtain ⟨l, hl, rfl⟩ : ∃ l : List Row, (∀ r ∈ l, Ents r.1 ∧ 0 ≤ r.2 ∧ r.2 < 18446744073709551616) ∧ xs = l.map row := list_map fun x hx => by
    obtain ⟨k1, k2⟩ := h2 x hx
    cases x <;> simp [GV.scalar] at k2
    obtain ⟨r, hr, e⟩ := ents_of (r0 := []) k1
    exact ⟨r, hr, e⟩
  exact ⟨l, ⟨by have := Nat.le_trans h1 (by decide : reachBytes ≤ 140737488351232); simpa using this, hl⟩, rfl⟩
theorem tableOrder (gs : List GV) (h : hasArgs [(false, rowsTy), (false, rowsTy), (false, rowsTy)] gs) : TT.lim 1 gs = some [.b true] := by
  obtain ⟨a, gs, rfl, h1, h⟩ := hasA_sc h
  obtain ⟨b, gs, rfl, h2, h⟩ := hasA_sc h
  obtain ⟨c, gs, rfl, h3, h⟩ := hasA_sc h
  obtain rfl := hasA_nil h
  obtain ⟨a, ha, rfl⟩ := rows_of h1
  obtain ⟨b, hb, rfl⟩ := rows_of h2
  obtain ⟨c, hc, rfl⟩ := rows_of h3
  exact order1 a b c ha hb hc
end C
end Go.Proofs.YtamcdgfjjeldeaaGreatDoor
