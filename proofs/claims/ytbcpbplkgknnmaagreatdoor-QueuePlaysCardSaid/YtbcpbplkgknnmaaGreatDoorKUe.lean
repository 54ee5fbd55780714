/- What the trees compute: plain laws. -/
import Derived.Test.YtbcpbplkgknnmaaGreatDoorKUT
import Derived.Test.YtbcpbplkgknnmaaGreatDoorAbsPl
import Derived.Lib.TrimUEq
import Derived.Lib.MapLaws
namespace Go.Proofs.YtbcpbplkgknnmaaGreatDoor
open Go Go.Abs
set_option linter.unusedSimpArgs false
set_option linter.unusedVariables false
set_option maxRecDepth 100000
namespace U
/-- An entry: key and value. A row: its entries and its number. -/
abbrev Ent := List UInt8 × List UInt8
abbrev Row := List Ent × Int
/-- Texts and lists of no more than any machine bears. -/
def Ents (d : List Ent) : Prop := d.length ≤ 140737488351232 ∧ ∀ x ∈ d, x.1.length ≤ 140737488351232 ∧ x.2.length ≤ 140737488351232
def Rows (l : List Row) : Prop := l.length ≤ 140737488351232 ∧ ∀ r ∈ l, Ents r.1 ∧ 0 ≤ r.2 ∧ r.2 < 18446744073709551616
def fewE (x : Ent) : Bool := decide (x.1.length + x.2.length ≤ 600)
def few12 (d : List Ent) : Bool := d.all fewE && decide (d.length ≤ 40)
def vput (n : Nat) : List UInt8 := if n < 128 then [UInt8.ofNat n] else UInt8.ofNat (n % 128 + 128) :: vput (n / 128)
termination_by n
decreasing_by omega
@[simp] theorem byteGs_length (a : List UInt8) : (byteGs a).length = a.length := by simp [byteGs]
def entPut (x : Ent) : List UInt8 := vput x.1.length ++ x.1 ++ vput x.2.length ++ x.2
def keyF (d : List Ent) : List UInt8 := vput d.length ++ d.flatMap entPut
def utfChk (s : List UInt8) (lo hi : Int) : Int := if (s.length : Int) < lo then 13 else if hi < (s.length : Int) then 13 else if Lib.validD s = true then 0 else 11
def entChk (x : Ent) : Int := if utfChk x.1 1 64 ≠ 0 then utfChk x.1 1 64 else utfChk x.2 0 256
def chkL : Option (List UInt8) → List Ent → Int
  | _, [] => 0
  | p, x :: xs => if entChk x ≠ 0 then entChk x else match p with
    | none => chkL (some x.1) xs
    | some k => if x.1 = k then 14 else if Op.bytesLess x.1 k = true then 7 else chkL (some x.1) xs
def descrChk (d : List Ent) : Int := if d.length = 0 then 12 else if 16 < d.length then 13 else chkL none d
def rowChk (r : Row) : Int := if descrChk r.1 ≠ 0 then descrChk r.1 else if r.2 = 0 then 18 else 0
abbrev K (r : Row) : List UInt8 := keyF r.1
/-- Rows whose keys rise. -/
def Rise (l : List Row) : Prop := l.Pairwise fun a b => K a < K b
theorem Rows.perm {l m : List Row} (h : l.Perm m) (hl : Rows l) : Rows m := ⟨by rw [← h.length_eq]; exact hl.1, fun r hr => hl.2 r (h.mem_iff.2 hr)⟩
def Few (t : List Row) : Prop := ∀ r ∈ t, few12 r.1 = true
def Ok (t : List Row) : Prop := t.length ≤ 256 ∧ Rise t ∧ ∀ r ∈ t, rowChk r = 0
def strs (l : List (List UInt8)) : GV := .l (l.map GV.s)
def Sm (n : Nat) (l : List (List UInt8)) : Prop := ∀ s ∈ l, s.length ≤ n
theorem eqsLoop (d e : List (List UInt8)) (hl : d.length = e.length) (hb : d.length ≤ 140737488351232) : ∀ m i : Nat, i + m = d.length →
    TT.lim 18 [.l (d.map GV.s), .l (e.map GV.s), .i .i64 d.length, .i .i64 i] = some (if d.drop i = e.drop i then [.i .i64 1] else [.i .i64 0])
  | 0, i, hi => by
    have h0 : d.drop i = [] := List.drop_eq_nil_of_le (by omega)
    have h1 : e.drop i = [] := List.drop_eq_nil_of_le (by omega)
    refine tree_lim rfl rfl ?_
    have h : ¬ ((i : Int) < d.length) := by omega
    simp [h, h0, h1]
  | m + 1, i, hi => by
    have hlt : i < d.length := by omega
    have hlt2 : i < e.length := by omega
    have ih : TT.lim 18 [.l (d.map GV.s), .l (e.map GV.s), .i .i64 d.length, .i .i64 ((i : Int) + 1)] = _ := eqsLoop d e hl hb m (i + 1) (by omega)
    have hd : (d.drop i = e.drop i) ↔ (d[i] = e[i] ∧ d.drop (i + 1) = e.drop (i + 1)) := by
      rw [List.drop_eq_getElem_cons hlt, List.drop_eq_getElem_cons hlt2, List.cons.injEq]
    refine tree_lim rfl rfl ?_
    have h : ((i : Int) < d.length) := by omega
    have hw := wrap64 (n := (i : Int) + 1) (by omega) (by omega)
    by_cases h1 : d[i] = e[i]
    · have h2 : (d.drop i = e.drop i) ↔ (d.drop (i + 1) = e.drop (i + 1)) := by rw [hd]; simp [h1]
      have h1' : (d[i] = e[i]) = True := eq_true h1
      clear h1
      simp only [h2]
      simp [h, hlt, hlt2, h1', hw, ih]
    · have h2 : ¬ (d.drop i = e.drop i) := by rw [hd]; simp [h1]
      rw [if_neg h2]
      simp [h, hlt, hlt2, h1]
theorem eqsP (d e : List (List UInt8)) (hb : d.length ≤ 140737488351232) (hb2 : e.length ≤ 140737488351232) : TT.lim 17 [strs d, strs e] = some [.b (decide (d = e))] := by
  unfold strs
  refine fn_lim rfl rfl ?_ rfl
  by_cases hl : d.length = e.length
  · have hl' : (d.length : Int) = (e.length : Int) := by omega
    have h32 : TT.lim 18 [.l (d.map GV.s), .l (e.map GV.s), .i .i64 d.length, .i .i64 0] = _ := eqsLoop d e hl hb d.length 0 (by omega)
    rw [List.drop_zero, List.drop_zero] at h32
    by_cases h : d = e
    · rw [if_pos h] at h32
      have h' : (d = e) = True := eq_true h
      clear h
      rw [hl'] at h32
      simp [hl', h32, h']
    · rw [if_neg h] at h32
      rw [hl'] at h32
      simp [hl', h32, h]
  · have hl' : ¬ (d.length : Int) = (e.length : Int) := by omega
    have h : ¬ d = e := fun h => hl (by rw [h])
    simp [hl', hl, h]
theorem has_strs {g : GV} (h : (GTy.list false [.str]).has g) : ∃ l : List (List UInt8), g = strs l ∧ l.length ≤ 140737488351232 ∧ Sm 140737488351232 l := by
  obtain ⟨xs, rfl, hl, hx⟩ := has_list h
  obtain ⟨rs, h1, rfl⟩ := list_map (f := GV.s) (p := fun s => s.length ≤ 140737488351232) (xs := xs) fun x hx' => by
    obtain ⟨h1, h2⟩ := hx x hx'
    obtain ⟨g, r, e, h3, h4⟩ := hasL_cons h1
    obtain ⟨s, rfl, hs⟩ := has_str h3
    have := hasL_nil h4
    subst this
    have hs' : s.length ≤ 140737488351232 := hs
    cases x <;> simp [GV.cells] at e <;> simp at h2
    · cases e; exact ⟨s, hs', rfl⟩
  exact ⟨rs, rfl, by rw [List.length_map] at hl; exact hl, h1⟩
structure TOk (t : List Row) : Prop where
  ok : Ok t
  few : Few t
  rows : Rows t
theorem TOk.len {t : List Row} (h : TOk t) : t.length ≤ 256 := h.ok.1
def zz (x : Int) : Int := if 0 ≤ x then 2 * x else -2 * x - 1
abbrev It := Int × Int × List UInt8
def itG (x : It) : GV := .g [.i .u64 x.1, .i .u64 x.2.1, .s x.2.2]
@[simp] theorem itG_cells (x : It) : (itG x).cells = [.i .u64 x.1, .i .u64 x.2.1, .s x.2.2] := rfl
def ltI (a b : It) : Bool := if a.1 = b.1 then decide (a.2.1 < b.2.1) else decide (a.1 < b.1)
def leI (a b : It) : Prop := ltI b a = false
theorem leI_iff (a b : It) : leI a b ↔ a.1 < b.1 ∨ (a.1 = b.1 ∧ a.2.1 ≤ b.2.1) := by
  unfold leI ltI
  split
  · next h => simp; omega
  · next h => simp; omega
theorem leI_refl (a : It) : leI a a := (leI_iff a a).2 (.inr ⟨rfl, Int.le_refl _⟩)
theorem leI_trans {a b c : It} (h1 : leI a b) (h2 : leI b c) : leI a c := by rw [leI_iff] at *; omega
theorem leI_of_lt {a b : It} (h : ltI a b = true) : leI a b := by
  rw [leI_iff]
  unfold ltI at h
  split at h
  · next e => have := of_decide_eq_true h; omega
  · next e => have := of_decide_eq_true h; omega
theorem leI_at {a b : It} (h : leI a b) : a.1 ≤ b.1 := by rw [leI_iff] at h; omega
def dI : It := (0, 0, [])
abbrev at_ (h : List It) (i : Nat) : It := h.getD i dI
def swapL (h : List It) (i j : Nat) : List It := (h.set i (at_ h j)).set j (at_ h i)
theorem swapL_len (h : List It) (i j : Nat) : (swapL h i j).length = h.length := by simp [swapL]
theorem at_swap (h : List It) {i j : Nat} (hi : i < h.length) (hj : j < h.length) (k : Nat) : at_ (swapL h i j) k = if k = j then at_ h i else if k = i then at_ h j else at_ h k := by
  unfold swapL at_
  simp only [List.getD_eq_getElem?_getD, List.getElem?_set, List.length_set]
  by_cases h1 : k = j
  · subst h1; simp [hj]
  · have h1' : ¬ j = k := fun e => h1 e.symm
    rw [if_neg h1', if_neg h1]
    by_cases h2 : k = i
    · subst h2; simp [hi]
    · have h2' : ¬ i = k := fun e => h2 e.symm
      rw [if_neg h2', if_neg h2]
theorem swap_perm (h : List It) {i j : Nat} (hi : i < h.length) (hj : j < h.length) : (swapL h i j).Perm h := by
  have := Array.swap_perm (xs := h.toArray) (i := i) (j := j) (by simpa using hi) (by simpa using hj)
  have h2 := this.toList
  simp only [Array.toList_swap] at h2
  unfold swapL at_
  simpa [List.getD_eq_getElem?_getD, hi, hj] using h2
def par (k : Nat) : Nat := (k - 1) / 2
def Heap (h : List It) (n : Nat) : Prop := ∀ k, 0 < k → k < n → leI (at_ h (par k)) (at_ h k)
theorem heap_min {h : List It} {n : Nat} (hh : Heap h n) : ∀ k, k < n → leI (at_ h 0) (at_ h k) := by
  intro k
  induction k using Nat.strongRecOn with
  | _ k ih =>
    intro hk
    rcases Nat.eq_zero_or_pos k with h0 | h0
    · subst h0; exact leI_refl _
    · exact leI_trans (ih (par k) (by unfold par; omega) (by unfold par; omega)) (hh k h0 hk)
def upF : Nat → List It → Nat → List It
  | 0, h, _ => h
  | f + 1, h, j => if par j = j ∨ ltI (at_ h j) (at_ h (par j)) = false then h else upF f (swapL h (par j) j) (par j)
structure UpOk (h : List It) (n j : Nat) : Prop where
  jn : j < n
  heap : ∀ k, 0 < k → k < n → k ≠ j → leI (at_ h (par k)) (at_ h k)
  kids : ∀ k, 0 < k → k < n → par k = j → 0 < j → leI (at_ h (par j)) (at_ h k)
theorem up_ok : ∀ (f : Nat) (h : List It) (j n : Nat), j < f → n = h.length → UpOk h n j → Heap (upF f h j) n ∧ (upF f h j).Perm h
  | 0, h, j, n, hf, _, _ => by omega
  | f + 1, h, j, n, hf, hn, hu => by
    unfold upF
    split
    · next hc =>
      refine ⟨fun k h0 hk => ?_, List.Perm.refl _⟩
      by_cases e : k = j
      · subst e
        rcases hc with hc | hc
        · unfold par at hc; omega
        · exact hc
      · exact hu.heap k h0 hk e
    · next hc =>
      rw [not_or] at hc
      obtain ⟨c1, c2⟩ := hc
      have c2 : ltI (at_ h j) (at_ h (par j)) = true := by simpa using c2
      have j0 : 0 < j := by
        rcases Nat.eq_zero_or_pos j with e | e
        · subst e; exact absurd rfl c1
        · exact e
      have hp : par j < j := by unfold par; omega
      have hjn := hu.jn
      have hsw := at_swap h (i := par j) (j := j) (by omega) (by omega)
      have hu2 : UpOk (swapL h (par j) j) n (par j) := by
        refine ⟨by omega, fun k h0 hk hne => ?_, fun k h0 hk hpk hp0 => ?_⟩
        · rw [hsw, hsw]
          by_cases e1 : k = j
          · subst e1
            rw [if_neg (by omega), if_pos rfl, if_pos rfl]
            exact leI_of_lt c2
          · rw [if_neg e1, if_neg hne]
            by_cases e2 : par k = j
            · rw [if_pos e2]
              exact hu.kids k h0 hk e2 j0
            · rw [if_neg e2]
              by_cases e3 : par k = par j
              · rw [if_pos e3]
                exact leI_trans (leI_of_lt c2) (e3 ▸ hu.heap k h0 hk e1)
              · rw [if_neg e3]
                exact hu.heap k h0 hk e1
        · rw [hsw, hsw]
          have q : par (par j) < par j := by unfold par at *; omega
          rw [if_neg (by omega), if_neg (by omega)]
          have hg := hu.heap (par j) hp0 (by omega) (by omega)
          by_cases e1 : k = j
          · subst e1
            rw [if_pos rfl]
            exact hg
          · rw [if_neg e1, if_neg (fun e => by rw [e] at hpk; omega)]
            exact leI_trans hg (hpk ▸ hu.heap k h0 hk e1)
      obtain ⟨r1, r2⟩ := up_ok f (swapL h (par j) j) (par j) n (by omega) (by rw [swapL_len]; exact hn) hu2
      exact ⟨r1, r2.trans (swap_perm h (by omega) (by omega))⟩
def pushF (h : List It) (x : It) : List It := upF (h.length + 1) (h ++ [x]) h.length
theorem push_ok (h : List It) (x : It) (hh : Heap h h.length) : Heap (pushF h x) (h.length + 1) ∧ (pushF h x).Perm (h ++ [x]) := by
  refine up_ok _ _ _ _ (by omega) (by simp) ⟨by omega, fun k h0 hk hne => ?_, fun k h0 hk hpk _ => ?_⟩
  · have hk2 : k < h.length := by omega
    have e1 : at_ (h ++ [x]) k = at_ h k := by simp [at_, List.getElem?_append_left (show k < h.length by omega)]
    have e2 : at_ (h ++ [x]) (par k) = at_ h (par k) := by simp [at_, List.getElem?_append_left (show par k < h.length by unfold par; omega)]
    rw [e1, e2]
    exact hh k h0 (by omega)
  · exfalso; unfold par at hpk; omega
def kid (h : List It) (i n : Nat) : Nat := if 2 * i + 2 < n ∧ ltI (at_ h (2 * i + 2)) (at_ h (2 * i + 1)) = true then 2 * i + 2 else 2 * i + 1
def downF : Nat → List It → Nat → Nat → List It
  | 0, h, _, _ => h
  | f + 1, h, i, n => if n ≤ 2 * i + 1 ∨ ltI (at_ h (kid h i n)) (at_ h i) = false then h else downF f (swapL h i (kid h i n)) (kid h i n) n
structure DownOk (h : List It) (n i : Nat) : Prop where
  heap : ∀ k, 0 < k → k < n → par k ≠ i → leI (at_ h (par k)) (at_ h k)
  kids : ∀ k, 0 < k → k < n → par k = i → 0 < i → leI (at_ h (par i)) (at_ h k)
theorem kid_min {h : List It} {i n : Nat} (h1 : 2 * i + 1 < n) : kid h i n < n ∧ par (kid h i n) = i ∧ i < kid h i n ∧ ∀ k, 0 < k → k < n → par k = i → leI (at_ h (kid h i n)) (at_ h k) := by
  unfold kid
  have two : ∀ k, 0 < k → par k = i → k = 2 * i + 1 ∨ k = 2 * i + 2 := fun k h0 hk => by unfold par at hk; omega
  split
  · next hc =>
    refine ⟨hc.1, by unfold par; omega, by omega, fun k h0 hk hpk => ?_⟩
    rcases two k h0 hpk with rfl | rfl
    · exact leI_of_lt hc.2
    · exact leI_refl _
  · next hc =>
    refine ⟨h1, by unfold par; omega, by omega, fun k h0 hk hpk => ?_⟩
    rcases two k h0 hpk with rfl | rfl
    · exact leI_refl _
    · have : ¬ ltI (at_ h (2 * i + 2)) (at_ h (2 * i + 1)) = true := fun e => hc ⟨hk, e⟩
      unfold leI
      simpa using this
theorem down_ok : ∀ (f : Nat) (h : List It) (i n : Nat), n - i < f → n ≤ h.length → DownOk h n i → Heap (downF f h i n) n ∧ (downF f h i n).Perm h ∧ ∀ k, n ≤ k → at_ (downF f h i n) k = at_ h k
  | 0, h, i, n, hf, _, _ => by omega
  | f + 1, h, i, n, hf, hn, hd => by
    unfold downF
    split
    · next hc =>
      refine ⟨fun k h0 hk => ?_, List.Perm.refl _, fun _ _ => rfl⟩
      by_cases e : par k = i
      · by_cases hlt : n ≤ 2 * i + 1
        · unfold par at e; omega
        · have hc := hc.resolve_left hlt
          have := (kid_min (h := h) (i := i) (n := n) (by omega)).2.2.2 k h0 hk e
          rw [e]
          exact leI_trans hc this
      · exact hd.heap k h0 hk e
    · next hc =>
      rw [not_or] at hc
      obtain ⟨c1, c2⟩ := hc
      have c2 : ltI (at_ h (kid h i n)) (at_ h i) = true := by simpa using c2
      obtain ⟨k1, k2, k3, k4⟩ := kid_min (h := h) (i := i) (n := n) (by omega)
      generalize kid h i n = j at *
      have hsw := at_swap h (i := i) (j := j) (by omega) (by omega)
      have hd2 : DownOk (swapL h i j) n j := by
        refine ⟨fun k h0 hk hne => ?_, fun k h0 hk hpk hj0 => ?_⟩
        · rw [hsw, hsw]
          rw [if_neg hne]
          by_cases e1 : k = j
          · subst e1
            rw [if_pos rfl, k2, if_pos rfl]
            exact leI_of_lt c2
          · rw [if_neg e1]
            by_cases e2 : par k = i
            · rw [if_pos e2]
              by_cases e3 : k = i
              · unfold par at e2; omega
              · rw [if_neg e3]
                exact k4 k h0 hk e2
            · rw [if_neg e2]
              by_cases e3 : k = i
              · rw [if_pos e3]
                subst e3
                exact hd.kids j (by omega) k1 k2 h0
              · rw [if_neg e3]
                exact hd.heap k h0 hk e2
        · rw [hsw, hsw]
          have q1 : par j = i := k2
          rw [if_neg (by omega), if_pos q1]
          rw [if_neg (by unfold par at hpk; omega), if_neg (by unfold par at hpk q1; omega)]
          exact hpk ▸ hd.heap k h0 hk (by omega)
      obtain ⟨r1, r2, r3⟩ := down_ok f (swapL h i j) j n (by omega) (by rw [swapL_len]; exact hn) hd2
      refine ⟨r1, r2.trans (swap_perm h (by omega) (by omega)), fun k hk => ?_⟩
      rw [r3 k hk, hsw, if_neg (by omega), if_neg (by omega)]
theorem itG_at {h : List It} {k : Nat} (hk : k < h.length) : (h.map itG)[k]? = some (itG (at_ h k)) := by
  rw [List.getElem?_map, List.getElem?_eq_getElem hk]
  simp [at_, hk]
theorem put_it (x : It) (a b : Int) (c : List UInt8) : (itG x).put 0 [.i .u64 a, .i .u64 b, .s c] = some (itG (a, b, c)) := rfl
theorem set_it (h : List It) (k : Nat) (x : It) : (h.map itG).set k (itG x) = (h.set k x).map itG := by rw [List.map_set]
theorem it_eta (x : It) : itG (x.1, x.2.1, x.2.2) = itG x := rfl
theorem idx_ok {h : List It} {k : Nat} (hk : k < h.length) : idx2 (some (.l (h.map itG))) (some (.i .i64 (k : Int))) = some (.i .i64 (k : Int)) := by
  rw [idx2_i, if_pos ⟨by omega, by rw [List.length_map]; omega⟩]
theorem at_ok {h : List It} {k : Nat} (hk : k < h.length) : at2 3 (some (.l (h.map itG))) (some (.i .i64 (k : Int))) = some (itG (at_ h k)) := by
  rw [at2_i, if_pos (by omega), show ((k : Int)).toNat = k by omega, itG_at hk]
  rfl
theorem upd_ok {h : List It} {k : Nat} (hk : k < h.length) (x : It) : upd4 3 0 (some (.l (h.map itG))) (some (.i .i64 (k : Int))) (some [.i .u64 x.1, .i .u64 x.2.1, .s x.2.2]) = some (.l ((h.set k x).map itG)) := by
  rw [upd4_i, if_pos ⟨by omega, rfl⟩, show ((k : Int)).toNat = k by omega, itG_at hk]
  simp only [Option.bind_some, itG_cells, List.length_cons, List.length_nil, if_true, put_it, it_eta, Option.map_some, set_it]
theorem par_int (j : Nat) (hj : j ≤ 1000000) : IntKind.i64.wrap ((IntKind.i64.wrap ((j : Int) - 1)).tdiv 2) = (par j : Nat) ∧ IntKind.i64.wrap ((j : Int) - 1) = (j : Int) - 1 := by
  have h1 := wrap64 (n := (j : Int) - 1) (by omega) (by omega)
  have h2 : ((j : Int) - 1).tdiv 2 = (par j : Nat) := by
    rcases Nat.eq_zero_or_pos j with e | e
    · subst e; rfl
    · have : (j : Int) - 1 = ((j - 1 : Nat) : Int) := by omega
      rw [this]
      exact (Int.ofNat_tdiv (j - 1) 2).symm
  refine ⟨?_, h1⟩
  rw [h1, h2]
  exact wrap64 (by omega) (by unfold par; omega)
theorem up_tree : ∀ (f : Nat) (h : List It) (j : Nat) (c : GV), j < f → j < h.length → h.length ≤ 1000000 →
    TT.lim 7 [.i .i64 (j : Int), .l (h.map itG), c] = some [.i .i64 0, .l ((upF f h j).map itG)]
  | 0, h, j, c, hf, _, _ => by omega
  | f + 1, h, j, c, hf, hj, hl => by
    obtain ⟨w1, w2⟩ := par_int j (by omega)
    rw [w2] at w1
    have hp : par j < h.length := by unfold par; omega
    have a1 := at_ok hj
    have a2 := at_ok hp
    have i1 := idx_ok hj
    have i2 := idx_ok hp
    have u1 := upd_ok hp (at_ h j)
    have hj2 : j < (h.set (par j) (at_ h j)).length := by rw [List.length_set]; exact hj
    have u2 := upd_ok hj2 (at_ h (par j))
    have i3 := idx_ok hj2
    have ih := fun hlt : par j < f => up_tree f (swapL h (par j) j) (par j) c hlt (by rw [swapL_len]; exact hp) (by rw [swapL_len]; exact hl)
    have hs : (h.set (par j) (at_ h j)).set j (at_ h (par j)) = swapL h (par j) j := rfl
    rw [hs] at u2
    have hle : par j ≤ j := by unfold par; omega
    by_cases e : par j = j
    · have hu : upF (f + 1) h j = h := if_pos (.inl e)
      rw [hu]
      have e' : ((par j : Nat) : Int) = (j : Int) := by omega
      refine tree_lim rfl rfl ?_
      simp [w1, w2, e']
    · have e' : ¬ ((par j : Nat) : Int) = (j : Int) := by omega
      have ih := ih (by omega)
      have hu : upF (f + 1) h j = if ltI (at_ h j) (at_ h (par j)) = false then h else upF f (swapL h (par j) j) (par j) := by
        show (if par j = j ∨ ltI (at_ h j) (at_ h (par j)) = false then h else upF f (swapL h (par j) j) (par j)) = _
        by_cases hc : ltI (at_ h j) (at_ h (par j)) = false
        · rw [if_pos (.inr hc), if_pos hc]
        · rw [if_neg (fun h => h.elim e hc), if_neg hc]
      rw [hu]
      generalize at_ h j = x at *
      generalize at_ h (par j) = y at *
      generalize swapL h (par j) j = h2 at *
      generalize h.set (par j) x = h3 at *
      generalize ((par j : Nat) : Int) = pj at *
      refine tree_lim rfl rfl ?_
      unfold ltI
      by_cases c1 : x.1 = y.1
      · have c1 := eq_true c1
        by_cases c2 : x.2.1 < y.2.1
        · simp [-idx2_i, -at2_i, -upd4_i, w1, w2, e', a1, a2, i1, i2, i3, u1, u2, c1, c2, ih]
        · simp [-idx2_i, -at2_i, -upd4_i, w1, w2, e', a1, a2, i1, i2, c1, c2]
      · by_cases c2 : x.1 < y.1
        · simp [-idx2_i, -at2_i, -upd4_i, w1, w2, e', a1, a2, i1, i2, i3, u1, u2, c1, c2, ih]
        · simp [-idx2_i, -at2_i, -upd4_i, w1, w2, e', a1, a2, i1, i2, c1, c2]
theorem up_fn (h : List It) (j : Nat) (c : GV) (hj : j < h.length) (hl : h.length ≤ 1000000) : TT.lim 6 [.i .i64 (j : Int), .l (h.map itG), c] = some [.i .i64 0, .l ((upF (j + 1) h j).map itG)] := by
  have h0 := up_tree (j + 1) h j c (by omega) hj hl
  refine tree_lim rfl rfl ?_
  simp [h0]
theorem push_tree (h : List It) (a n : Int) (t : List UInt8) (hl : h.length ≤ 1000) : TT.lim 8 [.i .u64 a, .i .u64 n, .s t, .l (h.map itG)] = some [.i .i64 0, .l ((pushF h (a, n, t)).map itG)] := by
  have h0 := up_fn (h ++ [(a, n, t)]) h.length (.i .u64 n) (by simp) (by simp; omega)
  have hw := wrap64 (n := ((h.length : Nat) : Int)) (by omega) (by omega)
  have hfold : GV.g [.i .u64 a, .i .u64 n, .s t] = itG (a, n, t) := rfl
  have hel : (itG (a, n, t)).elemOk 3 = true := rfl
  rw [List.map_append] at h0
  simp only [List.map_cons, List.map_nil] at h0
  have hb1 : 2 * (h.length + 1) * 32 ≤ 281474976710656 := by omega
  have hb2 : h.length ≤ 281474976710655 := by omega
  unfold pushF
  refine tree_lim rfl rfl ?_
  simp [hfold, hel, hb1, hb2, hw, h0]
theorem ltI_cases {a b : It} {v : Bool} (h : ltI a b = v) : ((a.1 = b.1) = True ∧ (a.2.1 < b.2.1) = (v = true)) ∨ ((a.1 = b.1) = False ∧ (a.1 < b.1) = (v = true)) := by
  unfold ltI at h
  by_cases e : a.1 = b.1
  · rw [if_pos e] at h
    refine .inl ⟨eq_true e, ?_⟩
    rw [← h, decide_eq_true_eq]
  · rw [if_neg e] at h
    refine .inr ⟨eq_false e, ?_⟩
    rw [← h, decide_eq_true_eq]
theorem down_tree : ∀ (f : Nat) (h : List It) (i n : Nat) (a0 c : GV), n - i < f → n ≤ h.length → h.length ≤ 1000000 → i ≤ 1000000 →
    ∃ i' : Nat, TT.lim 12 [a0, .i .i64 (n : Int), .i .i64 (i : Int), .l (h.map itG), c] = some [.i .i64 0, .i .i64 (i' : Int), .l ((downF f h i n).map itG)]
  | 0, h, i, n, a0, c, hf, _, _, _ => by omega
  | f + 1, h, i, n, a0, c, hf, hn, hl, hi => by
    have hunf : downF (f + 1) h i n = if n ≤ 2 * i + 1 ∨ ltI (at_ h (kid h i n)) (at_ h i) = false then h else downF f (swapL h i (kid h i n)) (kid h i n) n := rfl
    have w1 := wrap64 (n := 2 * (i : Int)) (by omega) (by omega)
    have w2 := wrap64 (n := 2 * (i : Int) + 1) (by omega) (by omega)
    have w3 := wrap64 (n := 2 * (i : Int) + 1 + 1) (by omega) (by omega)
    by_cases h1 : n ≤ 2 * i + 1
    · rw [hunf, if_pos (.inl h1)]
      have h1' : (n : Int) ≤ 2 * (i : Int) + 1 := by omega
      refine ⟨i, tree_lim rfl rfl ?_⟩
      simp [w1, w2, h1']
    have h1' : ¬ (n : Int) ≤ 2 * (i : Int) + 1 := by omega
    have h1n : ¬ (2 * (i : Int) + 1 < 0) := by omega
    have hj1 : 2 * i + 1 < h.length := by omega
    have hii : i < h.length := by omega
    have e1 : 2 * (i : Int) + 1 = ((2 * i + 1 : Nat) : Int) := by omega
    have e2 : 2 * (i : Int) + 1 + 1 = ((2 * i + 2 : Nat) : Int) := by omega
    have a1 := at_ok hj1
    have i1 := idx_ok hj1
    have ay := at_ok hii
    have iy := idx_ok hii
    have step : ∀ j : Nat, j < n → i < j → (∃ i' : Nat, TT.lim 12 [a0, .i .i64 (n : Int), .i .i64 (j : Int), .l ((swapL h i j).map itG), c] = some [.i .i64 0, .i .i64 (i' : Int), .l ((downF f (swapL h i j) j n).map itG)]) ∧
        upd4 3 0 (some (.l (h.map itG))) (some (.i .i64 (i : Int))) (some [.i .u64 (at_ h j).1, .i .u64 (at_ h j).2.1, .s (at_ h j).2.2]) = some (.l ((h.set i (at_ h j)).map itG)) ∧
        upd4 3 0 (some (.l ((h.set i (at_ h j)).map itG))) (some (.i .i64 (j : Int))) (some [.i .u64 (at_ h i).1, .i .u64 (at_ h i).2.1, .s (at_ h i).2.2]) = some (.l ((swapL h i j).map itG)) := by
      intro j hj hij
      refine ⟨down_tree f (swapL h i j) j n a0 c (by omega) (by rw [swapL_len]; exact hn) (by rw [swapL_len]; exact hl) (by omega), upd_ok hii (at_ h j), ?_⟩
      exact upd_ok (h := h.set i (at_ h j)) (by rw [List.length_set]; omega) (at_ h i)
    by_cases h2 : 2 * i + 2 < n
    · have h2' : 2 * (i : Int) + 1 + 1 < (n : Int) := by omega
      have hj2 : 2 * i + 2 < h.length := by omega
      have a2 := at_ok hj2
      have i2 := idx_ok hj2
      rw [← e1] at a1 i1
      rw [← e2] at a2 i2
      by_cases hk : ltI (at_ h (2 * i + 2)) (at_ h (2 * i + 1)) = true
      · have hkid : kid h i n = 2 * i + 2 := by unfold kid; rw [if_pos ⟨h2, hk⟩]
        rw [hunf, hkid]
        obtain ⟨⟨i', ih⟩, u1, u2⟩ := step (2 * i + 2) h2 (by omega)
        rw [← e2] at ih u2
        generalize at_ h (2 * i + 2) = x2 at *
        generalize at_ h (2 * i + 1) = x1 at *
        generalize at_ h i = y at *
        generalize downF f (swapL h i (2 * i + 2)) (2 * i + 2) n = R at *
        generalize swapL h i (2 * i + 2) = S at *
        generalize h.set i x2 = H2 at *
        cases hc : ltI x2 y with
        | true =>
          refine ⟨i', ?_⟩
          rw [if_neg (fun e => e.elim h1 (by simp))]
          refine tree_lim rfl rfl ?_
          rcases ltI_cases hk with ⟨p1, p2⟩ | ⟨p1, p2⟩ <;> rcases ltI_cases hc with ⟨q1, q2⟩ | ⟨q1, q2⟩ <;> simp [-idx2_i, -at2_i, -upd4_i, w1, w2, w3, h1', h1n, h2', a1, a2, ay, i1, i2, iy, p1, p2, q1, q2, u1, u2, ih]
        | false =>
          refine ⟨i, ?_⟩
          rw [if_pos (.inr rfl)]
          refine tree_lim rfl rfl ?_
          rcases ltI_cases hk with ⟨p1, p2⟩ | ⟨p1, p2⟩ <;> rcases ltI_cases hc with ⟨q1, q2⟩ | ⟨q1, q2⟩ <;> simp [-idx2_i, -at2_i, -upd4_i, w1, w2, w3, h1', h1n, h2', a1, a2, ay, i1, i2, iy, p1, p2, q1, q2]
      · have hkid : kid h i n = 2 * i + 1 := by unfold kid; rw [if_neg (fun e => hk e.2)]
        have hk : ltI (at_ h (2 * i + 2)) (at_ h (2 * i + 1)) = false := by simpa using hk
        rw [hunf, hkid]
        obtain ⟨⟨i', ih⟩, u1, u2⟩ := step (2 * i + 1) (by omega) (by omega)
        rw [← e1] at ih u2
        generalize at_ h (2 * i + 2) = x2 at *
        generalize at_ h (2 * i + 1) = x1 at *
        generalize at_ h i = y at *
        generalize downF f (swapL h i (2 * i + 1)) (2 * i + 1) n = R at *
        generalize swapL h i (2 * i + 1) = S at *
        generalize h.set i x1 = H2 at *
        cases hc : ltI x1 y with
        | true =>
          refine ⟨i', ?_⟩
          rw [if_neg (fun e => e.elim h1 (by simp))]
          refine tree_lim rfl rfl ?_
          rcases ltI_cases hk with ⟨p1, p2⟩ | ⟨p1, p2⟩ <;> rcases ltI_cases hc with ⟨q1, q2⟩ | ⟨q1, q2⟩ <;> simp [-idx2_i, -at2_i, -upd4_i, w1, w2, w3, h1', h1n, h2', a1, a2, ay, i1, i2, iy, p1, p2, q1, q2, u1, u2, ih]
        | false =>
          refine ⟨i, ?_⟩
          rw [if_pos (.inr rfl)]
          refine tree_lim rfl rfl ?_
          rcases ltI_cases hk with ⟨p1, p2⟩ | ⟨p1, p2⟩ <;> rcases ltI_cases hc with ⟨q1, q2⟩ | ⟨q1, q2⟩ <;> simp [-idx2_i, -at2_i, -upd4_i, w1, w2, w3, h1', h1n, h2', a1, a2, ay, i1, i2, iy, p1, p2, q1, q2]
    · have h2' : ¬ 2 * (i : Int) + 1 + 1 < (n : Int) := by omega
      have hkid : kid h i n = 2 * i + 1 := by unfold kid; rw [if_neg (fun e => h2 e.1)]
      rw [← e1] at a1 i1
      rw [hunf, hkid]
      obtain ⟨⟨i', ih⟩, u1, u2⟩ := step (2 * i + 1) (by omega) (by omega)
      rw [← e1] at ih u2
      generalize at_ h (2 * i + 1) = x1 at *
      generalize at_ h i = y at *
      generalize downF f (swapL h i (2 * i + 1)) (2 * i + 1) n = R at *
      generalize swapL h i (2 * i + 1) = S at *
      generalize h.set i x1 = H2 at *
      cases hc : ltI x1 y with
      | true =>
        refine ⟨i', ?_⟩
        rw [if_neg (fun e => e.elim h1 (by simp))]
        refine tree_lim rfl rfl ?_
        rcases ltI_cases hc with ⟨q1, q2⟩ | ⟨q1, q2⟩ <;> simp [-idx2_i, -at2_i, -upd4_i, w1, w2, w3, h1', h1n, h2', a1, ay, i1, iy, q1, q2, u1, u2, ih]
      | false =>
        refine ⟨i, ?_⟩
        rw [if_pos (.inr rfl)]
        refine tree_lim rfl rfl ?_
        rcases ltI_cases hc with ⟨q1, q2⟩ | ⟨q1, q2⟩ <;> simp [-idx2_i, -at2_i, -upd4_i, w1, w2, w3, h1', h1n, h2', a1, ay, i1, iy, q1, q2]
theorem down_fn (h : List It) (n : Nat) (c : GV) (hn : n ≤ h.length) (hl : h.length ≤ 1000000) : ∃ b : Bool, TT.lim 11 [.i .i64 0, .i .i64 (n : Int), .l (h.map itG), c] = some [.i .i64 0, .b b, .l ((downF (n + 1) h 0 n).map itG)] := by
  obtain ⟨i', h0⟩ := down_tree (n + 1) h 0 n (.i .i64 0) c (by omega) hn hl (by omega)
  have h0 : TT.lim 12 [.i .i64 0, .i .i64 (n : Int), .i .i64 0, .l (h.map itG), c] = some [.i .i64 0, .i .i64 (i' : Int), .l ((downF (n + 1) h 0 n).map itG)] := h0
  refine ⟨decide ((0 : Int) < (i' : Int)), tree_lim rfl rfl ?_⟩
  simp [h0]
def restF (h : List It) : List It := (downF (h.length - 1 + 1) (swapL h 0 (h.length - 1)) 0 (h.length - 1)).take (h.length - 1)
theorem downF_len : ∀ (f : Nat) (h : List It) (i n : Nat), (downF f h i n).length = h.length
  | 0, h, i, n => rfl
  | f + 1, h, i, n => by
    unfold downF
    split
    · rfl
    · rw [downF_len, swapL_len]
theorem at_take {h : List It} {n k : Nat} (hk : k < n) : at_ (h.take n) k = at_ h k := by
  unfold at_
  simp [List.getD, List.getElem?_take, hk]
theorem rest_ok (h : List It) (n : Nat) (hn : h.length = n + 1) (hh : Heap h (n + 1)) :
    (restF h).length = n ∧ Heap (restF h) n ∧ (at_ h 0 :: restF h).Perm h ∧ at_ (downF (n + 1) (swapL h 0 n) 0 n) n = at_ h 0 := by
  have hl : (swapL h 0 n).length = n + 1 := by rw [swapL_len, hn]
  have hat := at_swap h (i := 0) (j := n) (by omega) (by omega)
  have hd := down_ok (n + 1) (swapL h 0 n) 0 n (by omega) (by omega) ⟨fun k h0 hk hp => by
    have hpk : par k < k := by unfold par; omega
    rw [hat, hat, if_neg (by omega), if_neg hp, if_neg (by omega), if_neg (by omega)]
    exact hh k h0 (by omega), fun k h0 hk hp h00 => by omega⟩
  obtain ⟨d1, d2, d3⟩ := hd
  have hlast : at_ (downF (n + 1) (swapL h 0 n) 0 n) n = at_ h 0 := by rw [d3 n (by omega), hat, if_pos rfl]
  have hdl : (downF (n + 1) (swapL h 0 n) 0 n).length = n + 1 := by rw [downF_len, hl]
  have hr : restF h = (downF (n + 1) (swapL h 0 n) 0 n).take n := by unfold restF; rw [hn]; rfl
  generalize downF (n + 1) (swapL h 0 n) 0 n = D at *
  refine ⟨by rw [hr, List.length_take, hdl]; omega, ?_, ?_, hlast⟩
  · intro k h0 hk
    have hpk : par k < k := by unfold par; omega
    rw [hr, at_take (by omega), at_take hk]
    exact d1 k h0 hk
  · have e : D.take n ++ [at_ h 0] = D := by
      rw [← hlast]
      have : at_ D n = D[n]'(by omega) := by simp [at_, List.getD, List.getElem?_eq_getElem (show n < D.length by omega)]
      rw [this, List.take_append_getElem (show n < D.length by omega), List.take_of_length_le (by omega)]
    have p1 : (at_ h 0 :: restF h).Perm (D.take n ++ [at_ h 0]) := by rw [hr]; exact (List.perm_append_comm (l₁ := [at_ h 0]) (l₂ := D.take n))
    rw [e] at p1
    exact p1.trans (d2.trans (swap_perm h (by omega) (by omega)))
theorem pop_fn (h : List It) (n : Nat) (c : GV) (hn : h.length = n + 1) (hl : h.length ≤ 1000000) (hh : Heap h (n + 1)) :
    TT.lim 10 [.l (h.map itG), c] = some [.i .i64 0, .i .u64 (at_ h 0).1, .i .u64 (at_ h 0).2.1, .s (at_ h 0).2.2, .l ((restF h).map itG)] := by
  have hS : (swapL h 0 n).length = n + 1 := by rw [swapL_len, hn]
  obtain ⟨b, h0⟩ := down_fn (swapL h 0 n) n c (by omega) (by omega)
  obtain ⟨-, -, -, hlast⟩ := rest_ok h n hn hh
  have hdl : (downF (n + 1) (swapL h 0 n) 0 n).length = n + 1 := by rw [downF_len, hS]
  have hr : restF h = (downF (n + 1) (swapL h 0 n) 0 n).take n := by unfold restF; rw [hn]; rfl
  have u1 := upd_ok (h := h) (k := 0) (by omega) (at_ h n)
  have u2 := upd_ok (h := h.set 0 (at_ h n)) (k := n) (by rw [List.length_set]; omega) (at_ h 0)
  have hsw : (h.set 0 (at_ h n)).set n (at_ h 0) = swapL h 0 n := rfl
  rw [hsw] at u2
  rw [hr]
  generalize swapL h 0 n = S at *
  generalize downF (n + 1) S 0 n = D at *
  have a0 := at_ok (h := h) (k := 0) (by omega)
  have i0 := idx_ok (h := h) (k := 0) (by omega)
  rw [show (((0 : Nat)) : Int) = 0 from rfl] at a0 i0 u1
  have an := at_ok (h := h) (k := n) (by omega)
  have iN := idx_ok (h := h) (k := n) (by omega)
  have dn := at_ok (h := D) (k := n) (by omega)
  have di := idx_ok (h := D) (k := n) (by omega)
  have u3 := upd_ok (h := D) (k := n) (by omega) (0, 0, [])
  rw [hlast] at dn
  have ht : (D.set n (0, 0, [])).take n = D.take n := by rw [List.take_set_of_le (Nat.le_refl n)]
  rw [← ht]
  have hsl : (D.set n (0, 0, [])).length = n + 1 := by rw [List.length_set, hdl]
  generalize D.set n (0, 0, []) = D2 at *
  generalize h.set 0 (at_ h n) = h2 at *
  have hw := wrap64 (n := ((n : Nat) : Int)) (by omega) (by omega)
  have hle : ((n : Nat) : Int) ≤ (n : Int) + 1 := by omega
  clear hsw ht hr hlast hh hS
  generalize at_ h n = y at *
  generalize at_ h 0 = z at *
  refine tree_lim rfl rfl ?_
  simp [-idx2_i, -at2_i, -upd4_i, hn, hdl, hw, i0, a0, iN, an, u1, u2, h0, di, dn, u3, hsl, hle, List.map_take]
theorem qpop_nil (c : GV) : TT.lim 9 [.l [], c] = some [.i .i64 0, .i .u64 0, .s [], .b false, .l []] := by
  refine tree_lim rfl rfl ?_
  simp
theorem qpop (h : List It) (n : Nat) (c : GV) (hn : h.length = n + 1) (hl : h.length ≤ 1000000) (hh : Heap h (n + 1)) :
    TT.lim 9 [.l (h.map itG), c] = some [.i .i64 0, .i .u64 (at_ h 0).1, .s (at_ h 0).2.2, .b true, .l ((restF h).map itG)] := by
  have h0 := pop_fn h n c hn hl hh
  have hne : ¬ ((n : Int) + 1 = 0) := by omega
  generalize at_ h 0 = z at *
  generalize restF h = R at *
  refine tree_lim rfl rfl ?_
  simp [hn, hne, h0]
theorem pushF_len (h : List It) (x : It) (hh : Heap h h.length) : (pushF h x).length = h.length + 1 := by
  have := (push_ok h x hh).2.length_eq
  simpa using this
theorem put0 (h : List It) (a n : Int) (t : List UInt8) (hl : h.length ≤ 1000) (hn : 0 ≤ n ∧ n ≤ 1000000) :
    TT.lim 20 [.i .u64 a, .l [.s t], .i .i64 1, .i .i64 0, .l (h.map itG), .i .u64 n] = some [.i .i64 0, .l ((pushF h (a, n, t)).map itG), .i .u64 (n + 1)] := by
  have h0 := push_tree h a n t hl
  generalize pushF h (a, n, t) = R at *
  have h1 : TT.lim 20 [.i .u64 a, .l [.s t], .i .i64 1, .i .i64 1, .l (R.map itG), .i .u64 (n + 1)] = some [.i .i64 0, .l (R.map itG), .i .u64 (n + 1)] := by
    refine tree_lim rfl rfl ?_
    simp
  have hw := wrapu64 (n := n + 1) (by omega) (by omega)
  have hw1 : IntKind.i64.wrap 1 = 1 := rfl
  refine tree_lim rfl rfl ?_
  simp [h0, hw, hw1, h1]
theorem put_fn (h : List It) (a n : Int) (t : List UInt8) (hl : h.length ≤ 1000) (hn : 0 ≤ n ∧ n ≤ 1000000) :
    TT.lim 19 [.i .u64 a, .l [.s t], .l (h.map itG), .i .u64 n] = some [.i .i64 0, .l ((pushF h (a, n, t)).map itG), .i .u64 (n + 1)] := by
  have h0 := put0 h a n t hl hn
  generalize pushF h (a, n, t) = R at *
  refine tree_lim rfl rfl ?_
  simp [h0]
theorem at_mem {h : List It} {n : Nat} (hn : h.length = n + 1) : at_ h 0 ∈ h := by
  cases h with
  | nil => cases hn
  | cons x l => exact List.mem_cons_self
def dueF : Nat → Int → List It → List (List UInt8) × List It
  | 0, _, h => ([], h)
  | m + 1, t, h => if h = [] ∨ t < (at_ h 0).1 then ([], h) else ((at_ h 0).2.2 :: (dueF m t (restF h)).1, (dueF m t (restF h)).2)
theorem dueF_ok (t : Int) : ∀ (m : Nat) (h : List It), h.length = m → Heap h h.length → Heap (dueF m t h).2 (dueF m t h).2.length ∧ (dueF m t h).1.length + (dueF m t h).2.length = m
  | 0, h, hm, hh => by simp only [dueF]; exact ⟨hh, by simpa using hm⟩
  | m + 1, h, hm, hh => by
    simp only [dueF]
    split
    · exact ⟨hh, by simpa using hm⟩
    · obtain ⟨r1, r2, r3, -⟩ := rest_ok h m hm (by rw [← hm]; exact hh)
      obtain ⟨a, b⟩ := dueF_ok t m (restF h) r1 (by rw [r1]; exact r2)
      exact ⟨a, by simp only [List.length_cons]; omega⟩
theorem due0F (now : Int) (c : GV) : ∀ (m : Nat) (h : List It) (out : List (List UInt8)), h.length = m → out.length + m ≤ 1000 → Heap h h.length →
    TT.lim 22 [.i .u64 now, .l (out.map .s), .l (h.map itG), c] = some [.i .i64 0, .l ((out ++ (dueF m now h).1).map .s), .l ((dueF m now h).2.map itG)]
  | 0, h, out, hm, hl, hh => by
    obtain rfl := List.length_eq_zero_iff.1 hm
    refine tree_lim rfl rfl ?_
    simp [dueF]
  | m + 1, h, out, hm, hl, hh => by
    have hne : ¬ ((m : Int) + 1 = 0) := by omega
    have hnn : h ≠ [] := by rintro rfl; simp at hm
    have a0 := at_ok (h := h) (k := 0) (by omega)
    have i0 := idx_ok (h := h) (k := 0) (by omega)
    rw [show (((0 : Nat)) : Int) = 0 from rfl] at a0 i0
    by_cases hc : now < (at_ h 0).1
    · rw [dueF, if_pos (.inr hc)]
      generalize at_ h 0 = z at *
      refine tree_lim rfl rfl ?_
      simp [-idx2_i, -at2_i, hm, hne, a0, i0, hc]
    · obtain ⟨r1, r2, r3, -⟩ := rest_ok h m hm (by rw [← hm]; exact hh)
      have hp := qpop h m c hm (by omega) (by rw [← hm]; exact hh)
      have ih := due0F now c m (restF h) (out ++ [(at_ h 0).2.2]) r1 (by simp; omega) (by rw [r1]; exact r2)
      rw [dueF, if_neg (fun e => e.elim hnn hc)]
      have hcat : out ++ (at_ h 0).2.2 :: (dueF m now (restF h)).1 = out ++ [(at_ h 0).2.2] ++ (dueF m now (restF h)).1 := by simp
      rw [show (out ++ ((at_ h 0).2.2 :: (dueF m now (restF h)).1, (dueF m now (restF h)).2).1) = out ++ [(at_ h 0).2.2] ++ (dueF m now (restF h)).1 from hcat]
      generalize out ++ [(at_ h 0).2.2] ++ (dueF m now (restF h)).1 = O at *
      show _ = some [_, _, GV.l ((dueF m now (restF h)).2.map itG)]
      generalize (dueF m now (restF h)).2 = H2 at *
      rw [List.map_append] at ih
      simp only [List.map_cons, List.map_nil] at ih
      have hb2 : 2 * (out.length + 1) * 16 ≤ 281474976710656 := by omega
      have hb3 : out.length ≤ 281474976710655 := by omega
      clear hcat
      generalize restF h = R at *
      generalize at_ h 0 = z at *
      have hel : (GV.s z.2.2).elemOk 1 = true := rfl
      refine tree_lim rfl rfl ?_
      simp [-idx2_i, -at2_i, hm, hne, a0, i0, hc, hp, hb2, hb3, hel, ih]
theorem dueF_fn (now : Int) (c : GV) (h : List It) (hl : h.length ≤ 1000) (hh : Heap h h.length) :
    TT.lim 21 [.i .u64 now, .l (h.map itG), c] = some [.i .i64 0, .l ((dueF h.length now h).1.map .s), .l ((dueF h.length now h).2.map itG)] := by
  have h0 := due0F now c h.length h [] rfl (by simpa using hl) hh
  rw [List.nil_append] at h0
  simp only [List.map_nil] at h0
  generalize dueF h.length now h = R at *
  refine tree_lim rfl rfl ?_
  simp [h0]
theorem clone_q (h : List It) (hl : h.length ≤ 1000) : TT.lim 0 [.l (h.map itG)] = some [.l (h.map itG)] := by
  refine prim_lim rfl ?_
  unfold cloneP
  have h1 : (h.map itG).length * 32 ≤ 140737488355328 ∧ (h.map itG).all (GV.elemOk 3) = true := ⟨by rw [List.length_map]; omega, by rw [List.all_map]; exact List.all_eq_true.2 fun x _ => rfl⟩
  simp only [h1, and_self, if_true]
structure Sim (h L : List It) (n : Int) : Prop where
  heap : Heap h h.length
  perm : L.Perm h
  srt : L.Pairwise (fun x y => ltI x y = true)
  low : ∀ x ∈ L, x.2.1 < n
theorem Sim.len {h L : List It} {n : Int} (s : Sim h L n) : h.length = L.length := s.perm.length_eq.symm
theorem Sim.top {h L : List It} {x : It} {n : Int} (s : Sim h (x :: L) n) : at_ h 0 = x := by
  have hl := s.len
  have hm : at_ h 0 ∈ x :: L := s.perm.mem_iff.2 (at_mem (n := L.length) (by rw [hl]; rfl))
  rcases List.mem_cons.1 hm with e | e
  · exact e
  · exfalso
    have h1 : ltI x (at_ h 0) = true := (List.pairwise_cons.1 s.srt).1 _ e
    have hx : x ∈ h := s.perm.mem_iff.1 List.mem_cons_self
    obtain ⟨k, hk, e2⟩ := List.getElem_of_mem hx
    have h2 := heap_min s.heap k hk
    have e3 : at_ h k = x := by rw [← e2]; simp [at_, List.getD, List.getElem?_eq_getElem hk]
    rw [e3] at h2
    unfold leI at h2
    rw [h1] at h2
    cases h2
theorem Sim.pop {h L : List It} {x : It} {n : Int} (s : Sim h (x :: L) n) : Sim (restF h) L n := by
  have hl : h.length = L.length + 1 := by rw [s.len]; rfl
  obtain ⟨r1, r2, r3, -⟩ := rest_ok h L.length hl (by rw [← hl]; exact s.heap)
  refine ⟨by rw [r1]; exact r2, ?_, (List.pairwise_cons.1 s.srt).2, fun y hy => s.low y (List.mem_cons_of_mem _ hy)⟩
  rw [s.top] at r3
  exact ((s.perm.trans r3.symm).cons_inv)
def insL (x : It) : List It → List It
  | [] => [x]
  | y :: L => if y.1 ≤ x.1 then y :: insL x L else x :: y :: L
theorem insL_perm (x : It) : ∀ L, (insL x L).Perm (L ++ [x])
  | [] => List.Perm.refl _
  | y :: L => by
    unfold insL
    split
    · exact (insL_perm x L).cons y
    · exact List.perm_append_comm (l₁ := [x]) (l₂ := y :: L)
theorem ltI_num {y x : It} (h : y.1 ≤ x.1) (h2 : y.2.1 < x.2.1) : ltI y x = true := by
  unfold ltI
  split
  · simpa using h2
  · simp; omega
theorem ltI_first {y x : It} (h : x.1 < y.1) : ltI x y = true := by
  unfold ltI
  rw [if_neg (by omega)]
  simpa using h
theorem ltI_at {x y : It} (h : ltI x y = true) : x.1 ≤ y.1 := leI_at (leI_of_lt h)
theorem insL_srt (x : It) : ∀ L : List It, L.Pairwise (fun a b => ltI a b = true) → (∀ y ∈ L, y.2.1 < x.2.1) → (insL x L).Pairwise (fun a b => ltI a b = true)
  | [], _, _ => by simp [insL]
  | y :: L, hs, hlow => by
    obtain ⟨h1, h2⟩ := List.pairwise_cons.1 hs
    unfold insL
    split
    · next hc =>
      refine List.pairwise_cons.2 ⟨fun z hz => ?_, insL_srt x L h2 fun z hz => hlow z (List.mem_cons_of_mem _ hz)⟩
      rcases List.mem_append.1 ((insL_perm x L).mem_iff.1 hz) with g | g
      · exact h1 z g
      · rw [List.mem_singleton] at g
        subst g
        exact ltI_num hc (hlow y List.mem_cons_self)
    · next hc =>
      refine List.pairwise_cons.2 ⟨fun z hz => ?_, hs⟩
      rcases List.mem_cons.1 hz with rfl | g
      · exact ltI_first (by omega)
      · exact ltI_first (by have := ltI_at (h1 z g); omega)
theorem Sim.put {h L : List It} {n a : Int} {t : List UInt8} (s : Sim h L n) : Sim (pushF h (a, n, t)) (insL (a, n, t) L) (n + 1) := by
  have hp := push_ok h (a, n, t) s.heap
  have hl := pushF_len h (a, n, t) s.heap
  refine ⟨by rw [hl]; exact hp.1, (insL_perm _ _).trans ((s.perm.append_right _).trans hp.2.symm), insL_srt _ _ s.srt s.low, fun x hx => ?_⟩
  rcases List.mem_append.1 ((insL_perm _ _).mem_iff.1 hx) with g | g
  · have := s.low x g; omega
  · rw [List.mem_singleton] at g
    subst g
    show n < n + 1
    omega
theorem Sim.due (t : Int) : ∀ (L h : List It) (n : Int), Sim h L n → (dueF h.length t h).1 = (L.takeWhile (fun x => decide (x.1 ≤ t))).map (·.2.2) ∧ Sim (dueF h.length t h).2 (L.dropWhile (fun x => decide (x.1 ≤ t))) n
  | [], h, n, s => by
    have : h = [] := List.length_eq_zero_iff.1 (by rw [s.len]; rfl)
    subst this
    exact ⟨rfl, s⟩
  | x :: L, h, n, s => by
    have hl : h.length = L.length + 1 := by rw [s.len]; rfl
    have hnn : h ≠ [] := by rintro rfl; simp at hl
    have ht := s.top
    have hrl := s.pop.len
    rw [hl, dueF]
    by_cases hc : t < x.1
    · rw [if_pos (.inr (by rw [ht]; exact hc))]
      have e : decide (x.1 ≤ t) = false := by simp; omega
      rw [List.takeWhile_cons_of_neg (by simp [e]), List.dropWhile_cons_of_neg (by simp [e])]
      exact ⟨rfl, s⟩
    · rw [if_neg (fun e => e.elim hnn (by rw [ht]; exact hc))]
      obtain ⟨d1, d2⟩ := Sim.due t L (restF h) n s.pop
      rw [hrl] at d1 d2
      have e : decide (x.1 ≤ t) = true := by simp; omega
      rw [List.takeWhile_cons_of_pos (by simp [e]), List.dropWhile_cons_of_pos (by simp [e])]
      exact ⟨by rw [ht, d1]; rfl, d2⟩
def itD (x : It) : GV := .g [.i .u64 x.1, .s x.2.2]
@[simp] theorem itD_cells (x : It) : (itD x).cells = [.i .u64 x.1, .s x.2.2] := rfl
def cntI (a : Int) : List It → Nat
  | [] => 0
  | y :: L => if y.1 ≤ a then cntI a L + 1 else 0
theorem cntI_le (a : Int) : ∀ L, cntI a L ≤ L.length
  | [] => Nat.le_refl _
  | y :: L => by
    have := cntI_le a L
    unfold cntI
    split <;> simp <;> omega
theorem cntI_take (a : Int) : ∀ L : List It, L.takeWhile (fun x : It => decide (x.1 ≤ a)) = L.take (cntI a L)
  | [] => rfl
  | y :: L => by
    unfold cntI
    split
    · next h => rw [List.takeWhile_cons_of_pos (by simpa using h), List.take_succ_cons, cntI_take a L]
    · next h => rw [List.takeWhile_cons_of_neg (by simpa using h)]; rfl
theorem cntI_drop (a : Int) : ∀ L : List It, L.dropWhile (fun x : It => decide (x.1 ≤ a)) = L.drop (cntI a L)
  | [] => rfl
  | y :: L => by
    unfold cntI
    split
    · next h => rw [List.dropWhile_cons_of_pos (by simpa using h), List.drop_succ_cons, cntI_drop a L]
    · next h => rw [List.dropWhile_cons_of_neg (by simpa using h)]; rfl
theorem insL_cnt (x : It) : ∀ L, insL x L = L.take (cntI x.1 L) ++ x :: L.drop (cntI x.1 L)
  | [] => rfl
  | y :: L => by
    unfold insL cntI
    split
    · rw [List.take_succ_cons, List.drop_succ_cons, List.cons_append, insL_cnt x L]
    · rfl
theorem refPut0 (L : List It) (a : Int) (t : GV) (hl : L.length ≤ 1000000) : ∀ (m i : Nat), i + m = L.length →
    TT.lim 25 [.l (L.map itD), .i .u64 a, t, .i .i64 (i : Int)] = some [.i .i64 0, .i .i64 ((i + cntI a (L.drop i) : Nat) : Int)]
  | 0, i, hi => by
    have h0 : L.drop i = [] := List.drop_eq_nil_of_le (by omega)
    have h : ¬ ((i : Int) < L.length) := by omega
    refine tree_lim rfl rfl ?_
    simp [h, h0, cntI]
  | m + 1, i, hi => by
    have hlt : i < L.length := by omega
    have ih := refPut0 L a t hl m (i + 1) (by omega)
    have hcast : ((i + 1 : Nat) : Int) = (i : Int) + 1 := by omega
    rw [hcast] at ih
    have hd : L.drop i = L[i] :: L.drop (i + 1) := List.drop_eq_getElem_cons hlt
    have hlt2 : (i : Int) < L.length := by omega
    have hw := wrap64 (n := (i : Int) + 1) (by omega) (by omega)
    rw [hd]
    generalize L.drop (i + 1) = X at *
    unfold cntI
    by_cases hc : L[i].1 ≤ a
    · rw [if_pos hc]
      have e : i + 1 + cntI a X = i + (cntI a X + 1) := by omega
      rw [e] at ih
      generalize i + (cntI a X + 1) = Y at *
      clear hd e
      refine tree_lim rfl rfl ?_
      simp [hlt, hlt2, hw, hc, ih]
    · rw [if_neg hc]
      clear hd
      refine tree_lim rfl rfl ?_
      simp [hlt, hlt2, hc]
theorem refPut (L : List It) (a n : Int) (t : List UInt8) (hl : L.length ≤ 1000000) : TT.lim 24 [.l (L.map itD), .i .u64 a, .s t] = some [.l ((insL (a, n, t) L).map itD)] := by
  have h0 := refPut0 L a (.s t) hl L.length 0 (by omega)
  rw [show (((0 : Nat)) : Int) = 0 from rfl, List.drop_zero, Nat.zero_add] at h0
  have hc := cntI_le a L
  rw [insL_cnt]
  show _ = some [GV.l ((L.take (cntI a L) ++ (a, n, t) :: L.drop (cntI a L)).map itD)]
  generalize cntI a L = k at *
  have hk : (k : Int) ≤ L.length := by omega
  have hel : (GV.g [.i .u64 a, .s t]).elemOk 2 = true := rfl
  have hall : ∀ l : List It, (l.map itD).all (GV.elemOk 2) = true := fun l => by rw [List.all_map]; exact List.all_eq_true.2 fun x _ => rfl
  have hA := hall (L.take k)
  have hB := hall (L.drop k)
  rw [List.map_take] at hA
  rw [List.map_drop] at hB
  have hcl : (L.all ((fun x => x.cells.length.beq 2) ∘ itD)) = true := List.all_eq_true.2 fun x _ => rfl
  have hfull : (L.map itD).take L.length = L.map itD := List.take_of_length_le (by simp)
  have hmin : min k L.length = k := Nat.min_eq_left hc
  have hb1 : 2 * k * 24 ≤ 281474976710656 := by omega
  have hb2 : k ≤ 281474976710656 := by omega
  have hb3 : 2 * (k + 1) * 24 ≤ 281474976710656 := by omega
  have hb4 : k + 1 ≤ 281474976710656 := by omega
  have hb6 : k ≤ 281474976710655 := by omega
  have hb5 : 2 * (k + 1 + (L.length - k)) * 24 ≤ 281474976710656 := by omega
  have hb7 : k + 1 + (L.length - k) ≤ 281474976710656 := by omega
  have hfold : GV.g [.i .u64 a, .s t] = itD (a, n, t) := rfl
  have hel2 : (itD (a, n, t)).elemOk 2 = true := rfl
  refine fn_lim rfl rfl ?_ rfl
  simp [-List.all_eq_true, h0, hk, hel, hA, hB, hcl, hfull, hmin, hfold, hel2, List.map_take, List.map_drop, hb1, hb2, hb3, hb4, hb5, hb6, hb7]
theorem refDue0 (L : List It) (a : Int) (hl : L.length ≤ 1000000) : ∀ (m i : Nat) (out : List (List UInt8)), i + m = L.length → out.length ≤ i →
    TT.lim 14 [.l (L.map itD), .i .u64 a, .l (out.map .s), .i .i64 (i : Int)] = some [.i .i64 0, .l ((out ++ ((L.drop i).take (cntI a (L.drop i))).map (·.2.2)).map .s), .i .i64 ((i + cntI a (L.drop i) : Nat) : Int)]
  | 0, i, out, hi, ho => by
    have h0 : L.drop i = [] := List.drop_eq_nil_of_le (by omega)
    have h : ¬ ((i : Int) < L.length) := by omega
    refine tree_lim rfl rfl ?_
    simp [h, h0, cntI]
  | m + 1, i, out, hi, ho => by
    have hlt : i < L.length := by omega
    have ih := refDue0 L a hl m (i + 1) (out ++ [L[i].2.2]) (by omega) (by simp; omega)
    have hcast : ((i + 1 : Nat) : Int) = (i : Int) + 1 := by omega
    rw [hcast] at ih
    have hd : L.drop i = L[i] :: L.drop (i + 1) := List.drop_eq_getElem_cons hlt
    have hlt2 : (i : Int) < L.length := by omega
    have hw := wrap64 (n := (i : Int) + 1) (by omega) (by omega)
    rw [hd]
    generalize L.drop (i + 1) = X at *
    unfold cntI
    by_cases hc : L[i].1 ≤ a
    · rw [if_pos hc]
      have e : i + 1 + cntI a X = i + (cntI a X + 1) := by omega
      rw [e] at ih
      rw [List.take_succ_cons, List.map_cons, List.append_cons]
      generalize i + (cntI a X + 1) = Y at *
      generalize out ++ [L[i].2.2] ++ (X.take (cntI a X)).map (·.2.2) = O at *
      rw [List.map_append] at ih
      simp only [List.map_cons, List.map_nil] at ih
      have hb2 : 2 * (out.length + 1) * 16 ≤ 281474976710656 := by omega
      have hb3 : out.length ≤ 281474976710655 := by omega
      have hel : (GV.s L[i].2.2).elemOk 1 = true := rfl
      clear hd e
      refine tree_lim rfl rfl ?_
      simp [hlt, hlt2, hw, hc, hb2, hb3, hel, ih]
    · rw [if_neg hc]
      clear hd
      refine tree_lim rfl rfl ?_
      simp [hlt, hlt2, hc]
theorem refDue (L : List It) (a : Int) (hl : L.length ≤ 1000000) : TT.lim 13 [.l (L.map itD), .i .u64 a] = some [.l ((L.drop (cntI a L)).map itD), .l (((L.take (cntI a L)).map (·.2.2)).map .s)] := by
  have h0 := refDue0 L a hl L.length 0 [] (by omega) (Nat.le_refl _)
  rw [show (((0 : Nat)) : Int) = 0 from rfl, List.drop_zero, Nat.zero_add, List.nil_append] at h0
  simp only [List.map_nil] at h0
  have hc := cntI_le a L
  generalize ((L.take (cntI a L)).map (·.2.2)).map GV.s = O at *
  generalize cntI a L = k at *
  have hk : (k : Int) ≤ L.length := by omega
  have hcl : (L.all ((fun x => x.cells.length.beq 2) ∘ itD)) = true := List.all_eq_true.2 fun x _ => rfl
  have hfull : (L.map itD).take L.length = L.map itD := List.take_of_length_le (by simp)
  refine fn_lim rfl rfl ?_ rfl
  simp [-List.all_eq_true, h0, hk, hcl, hfull, List.map_drop]
theorem putN (a : Int) (ts : List (List UInt8)) (hts : ts.length ≤ 10) : ∀ (m i : Nat) (h : List It) (L : List It) (n : Int), i + m = ts.length → h.length + m ≤ 1000 → 0 ≤ n → n + m ≤ 1000000 → Sim h L n →
    ∃ h' L' : List It, TT.lim 20 [.i .u64 a, .l (ts.map .s), .i .i64 (ts.length : Int), .i .i64 (i : Int), .l (h.map itG), .i .u64 n] = some [.i .i64 0, .l (h'.map itG), .i .u64 (n + m)] ∧ Sim h' L' (n + m) ∧ h'.length = h.length + m ∧
      ∀ (x1 x2 x3 x7 x8 : GV) (_ : True), TT.lim 23 [.l (L.map itD), x1, x2, x3, .l (ts.map .s), .i .i64 (ts.length : Int), .i .i64 (i : Int), x7, .i .u64 a, x8, .i .u64 (n + m)] = some [.i .i64 0, .l (L'.map itD)]
  | 0, i, h, L, n, hi, hl, hn, hn2, s => by
    have e : ts.length = i := by omega
    have e2 : n + ((0 : Nat) : Int) = n := by omega
    rw [e2]
    refine ⟨h, L, tree_lim rfl rfl ?_, s, rfl, fun x1 x2 x3 x7 x8 _ => tree_lim rfl rfl ?_⟩
    · simp [e]
    · simp [e]
  | m + 1, i, h, L, n, hi, hl, hn, hn2, s => by
    have hlt : i < ts.length := by omega
    have h0 := push_tree h a n ts[i] (by omega)
    have hpl := pushF_len h (a, n, ts[i]) s.heap
    obtain ⟨h', L', k0, k1, k2, k3⟩ := putN a ts hts m (i + 1) (pushF h (a, n, ts[i])) (insL (a, n, ts[i]) L) (n + 1) (by omega) (by omega) (by omega) (by omega) s.put
    have hp := refPut L a n ts[i] (by rw [← s.len]; omega)
    have hc : n + 1 + (m : Int) = n + ((m + 1 : Nat) : Int) := by omega
    have hcast : ((i + 1 : Nat) : Int) = (i : Int) + 1 := by omega
    rw [hc, hcast] at k0
    rw [hc] at k1
    rw [hc, hcast] at k3
    generalize n + ((m + 1 : Nat) : Int) = X at *
    have hlt2 : (i : Int) < ts.length := by omega
    have hw := wrap64 (n := (i : Int) + 1) (by omega) (by omega)
    have hwu := wrapu64 (n := n + 1) (by omega) (by omega)
    refine ⟨h', L', tree_lim rfl rfl ?_, k1, by omega, fun x1 x2 x3 x7 x8 _ => tree_lim rfl rfl ?_⟩
    · generalize pushF h (a, n, ts[i]) = R at *
      simp [hlt, hlt2, hw, hwu, h0, k0]
    · have k3 := k3 x1 x2 x3 x7 x8 trivial
      generalize insL (a, n, ts[i]) L = R at *
      simp [hlt, hlt2, hw, hp, k3]
theorem putN_fn (a : Int) (ts : List (List UInt8)) (hts : ts.length ≤ 10) (h L : List It) (n : Int) (hl : h.length ≤ 900) (hn : 0 ≤ n) (hn2 : n ≤ 900000) (s : Sim h L n) :
    ∃ h' L' : List It, TT.lim 19 [.i .u64 a, .l (ts.map .s), .l (h.map itG), .i .u64 n] = some [.i .i64 0, .l (h'.map itG), .i .u64 (n + ts.length)] ∧ Sim h' L' (n + ts.length) ∧ h'.length = h.length + ts.length ∧
      ∀ (x1 x2 x3 x7 x8 : GV), TT.lim 23 [.l (L.map itD), x1, x2, x3, .l (ts.map .s), .i .i64 (ts.length : Int), .i .i64 0, x7, .i .u64 a, x8, .i .u64 (n + ts.length)] = some [.i .i64 0, .l (L'.map itD)] := by
  obtain ⟨h', L', k0, k1, k2, k3⟩ := putN a ts hts ts.length 0 h L n (by omega) (by omega) hn (by omega) s
  have k0 : TT.lim 20 [.i .u64 a, .l (ts.map .s), .i .i64 (ts.length : Int), .i .i64 0, .l (h.map itG), .i .u64 n] = some [.i .i64 0, .l (h'.map itG), .i .u64 (n + ts.length)] := k0
  refine ⟨h', L', tree_lim rfl rfl ?_, k1, k2, fun x1 x2 x3 x7 x8 => k3 x1 x2 x3 x7 x8 trivial⟩
  simp [k0]
abbrev ActQ := Int × Int × List (List UInt8)
def actG (x : ActQ) : GV := .g [.i .u8 x.1, .i .u64 x.2.1, .l (x.2.2.map .s)]
@[simp] theorem actG_cells (x : ActQ) : (actG x).cells = [.i .u8 x.1, .i .u64 x.2.1, .l (x.2.2.map .s)] := rfl
theorem mod4 {n : Int} (h0 : 0 ≤ n) : n.tmod 4 = n % 4 := Int.tmod_eq_emod_of_nonneg h0
theorem play_step (acts : List ActQ) (i : Nat) (hi : i < acts.length) (hlen : acts.length ≤ 80) (h L : List It) (n : Int) (s : Sim h L n) (hl : h.length ≤ 10 * i) (hn : 0 ≤ n) (hn2 : n ≤ 10 * i) (hx0 : 0 ≤ acts[i].1) (hx1 : acts[i].1 < 256) (hx : acts[i].2.2.length ≤ 10) :
    ∃ (h' L' : List It) (n' : Int), Sim h' L' n' ∧ h'.length ≤ 10 * (i + 1) ∧ 0 ≤ n' ∧ n' ≤ 10 * (i + 1 : Nat) ∧ ∀ out,
      TT.lim 2 [.l (L'.map itD), .l (acts.map actG), .i .i64 (acts.length : Int), .i .i64 ((i : Int) + 1), .l (h'.map itG), .i .u64 n'] = some out →
      TT.lim 2 [.l (L.map itD), .l (acts.map actG), .i .i64 (acts.length : Int), .i .i64 (i : Int), .l (h.map itG), .i .u64 n] = some out := by
  have hlt2 : (i : Int) < acts.length := by omega
  have hw := wrap64 (n := (i : Int) + 1) (by omega) (by omega)
  have hc := clone_q h (by omega)
  have hm4 := mod4 hx0
  have hzz := put_fn h 0 n [122, 122] (by omega) (by omega)
  have hzl := pushF_len h (0, n, [122, 122]) s.heap
  have hzh := (push_ok h (0, n, [122, 122]) s.heap).1
  have hzp := qpop (pushF h (0, n, [122, 122])) h.length (.i .u64 (n + 1)) hzl (by omega) hzh
  generalize pushF h (0, n, [122, 122]) = Z at *
  generalize at_ Z 0 = zz at *
  generalize restF Z = ZR at *
  have hxl : ¬ (10 : Int) < acts[i].2.2.length := by omega
  have hat : at2 3 (some (.l (acts.map actG))) (some (.i .i64 (i : Int))) = some (actG acts[i]) := by simp [hi]
  generalize acts[i] = X at *
  obtain ⟨d0, d1, d2⟩ := X
  simp only at hx0 hx1 hx hm4 hxl
  have fin : ∀ (h' L' : List It) (n' : Int), Sim h' L' n' → (h' = [] ∧ L' = []) ∨ ∃ x Lr, L' = x :: Lr ∧ ∃ k, h'.length = k + 1 ∧ Lr.length = k ∧ at2 3 (some (.l (h'.map itG))) (some (.i .i64 0)) = some (itG x) ∧ idx2 (some (.l (h'.map itG))) (some (.i .i64 0)) = some (.i .i64 0) := by
    intro h' L' n' s'
    cases L' with
    | nil => exact .inl ⟨List.length_eq_zero_iff.1 (by rw [s'.len]; rfl), rfl⟩
    | cons x Lr =>
      have hl' : h'.length = Lr.length + 1 := by rw [s'.len]; rfl
      have a0 := at_ok (h := h') (k := 0) (by omega)
      have i0 := idx_ok (h := h') (k := 0) (by omega)
      rw [show (((0 : Nat)) : Int) = 0 from rfl] at a0 i0
      rw [s'.top] at a0
      exact .inr ⟨x, Lr, rfl, Lr.length, hl', rfl, a0, i0⟩
  by_cases h2 : d0 % 4 = 2
  · -- due
    obtain ⟨D, E, O, hd, hr, e2, hDl, hOl⟩ : ∃ (D E : List It) (O : List (List UInt8)), TT.lim 21 [.i .u64 d1, .l (h.map itG), .i .u64 n] = some [.i .i64 0, .l (O.map .s), .l (D.map itG)] ∧ TT.lim 13 [.l (L.map itD), .i .u64 d1] = some [.l (E.map itD), .l (O.map .s)] ∧ Sim D E n ∧ D.length ≤ h.length ∧ O.length ≤ h.length := by
      have hd := dueF_fn d1 (.i .u64 n) h (by omega) s.heap
      have hr := refDue L d1 (by rw [← s.len]; omega)
      obtain ⟨e1, e2⟩ := Sim.due d1 L h n s
      obtain ⟨-, g2⟩ := dueF_ok d1 h.length h rfl s.heap
      rw [cntI_take] at e1
      rw [cntI_drop] at e2
      rw [← e1] at hr
      exact ⟨_, _, _, hd, hr, e2, by omega, by omega⟩
    have he := eqsP O O (by omega) (by omega)
    rw [decide_eq_true rfl] at he
    unfold strs at he
    generalize O.map GV.s = O' at *
    refine ⟨D, E, n, e2, by omega, hn, by omega, fun out ih => ?_⟩
    rcases fin _ _ _ e2 with ⟨f1, f2⟩ | ⟨x, Lr, f2, k, f3, f4, f5, f6⟩
    · subst f1; subst f2
      by_cases hcl : 128 ≤ d0
      · refine tree_lim rfl rfl ?_
        simp [-idx2_i, -at2_i, hat, hlt2, hxl, hcl, hzz, hzp, hc, hm4, h2, hd, hr, he, hw] at ih ⊢
        simp [ih]
      · refine tree_lim rfl rfl ?_
        simp [-idx2_i, -at2_i, hat, hlt2, hxl, hcl, hm4, h2, hd, hr, he, hw] at ih ⊢
        simp [ih]
    · subst f2
      have hk : ¬ ((k : Int) + 1 = 0) := by omega
      have hk2 : (0 : Int) < (k : Int) + 1 := by omega
      by_cases hcl : 128 ≤ d0
      · refine tree_lim rfl rfl ?_
        simp [-idx2_i, -at2_i, hat, hlt2, hxl, hcl, hzz, hzp, hc, hm4, h2, hd, hr, he, hw, f3, f4, f5, f6, hk, hk2] at ih ⊢
        simp [hw, ih]
      · refine tree_lim rfl rfl ?_
        simp [-idx2_i, -at2_i, hat, hlt2, hxl, hcl, hm4, h2, hd, hr, he, hw, f3, f4, f5, f6, hk, hk2] at ih ⊢
        simp [hw, ih]
  by_cases h3 : d0 % 4 = 3
  · -- pop
    rcases fin h L n s with ⟨rfl, rfl⟩ | ⟨x, Lr, rfl, k, g3, g4, g5, g6⟩
    · have hp := qpop_nil (.i .u64 n)
      refine ⟨[], [], n, s, by simp, hn, by omega, fun out ih => ?_⟩
      simp only [List.map_nil] at ih hc hzz
      by_cases hcl : 128 ≤ d0
      · refine tree_lim rfl rfl ?_
        simp [-idx2_i, -at2_i, hat, hlt2, hxl, hcl, hzz, hzp, hc, hm4, h2, h3, hw, hp, ih]
      · refine tree_lim rfl rfl ?_
        simp [-idx2_i, -at2_i, hat, hlt2, hxl, hcl, hm4, h2, h3, hw, hp, ih]
    · have hp := qpop h k (.i .u64 n) g3 (by omega) (by rw [← g3]; exact s.heap)
      rw [s.top] at hp
      have s' := s.pop
      have hrl : (restF h).length = k := by rw [s'.len]; exact g4
      generalize restF h = R at *
      refine ⟨R, Lr, n, s', by omega, hn, by omega, fun out ih => ?_⟩
      have hk1 : ¬ ((k : Int) + 1 = 0) := by omega
      have hk3 : (0 : Int) < (k : Int) + 1 := by omega
      have hk4 : ¬ ((k : Int) + 1 < 1) := by omega
      have hk5 : (1 : Int) ≤ (k : Int) + 1 := by omega
      rcases fin _ _ _ s' with ⟨f1, f2⟩ | ⟨y, Lr2, f2, k2, f3, f4, f5, f6⟩
      · subst f1; subst f2
        by_cases hcl : 128 ≤ d0
        · refine tree_lim rfl rfl ?_
          simp [-idx2_i, -at2_i, hat, hlt2, hxl, hcl, hzz, hzp, hc, hm4, h2, h3, hw, hp] at ih ⊢
          simp [hw, ih]
        · refine tree_lim rfl rfl ?_
          simp [-idx2_i, -at2_i, hat, hlt2, hxl, hcl, hm4, h2, h3, hw, hp] at ih ⊢
          simp [hw, ih]
      · subst f2
        have hk : ¬ ((k2 : Int) + 1 = 0) := by omega
        have hk2 : (0 : Int) < (k2 : Int) + 1 := by omega
        have kd0 : at2 2 (some (.l (itD x :: itD y :: List.map itD Lr2))) (some (.i .i64 0)) = some (itD x) := by simp
        have kd1 : at2 2 (some (.l (itD y :: List.map itD Lr2))) (some (.i .i64 0)) = some (itD y) := by simp
        have kk1 : ¬ ((k2 : Int) + 1 + 1 ≤ 0) := by omega
        have kk2 : ¬ ((k2 : Int) + 1 + 1 < 1) := by omega
        have kk3 : (1 : Int) ≤ (k2 : Int) + 1 + 1 := by omega
        have kk4 : k2 ≤ Lr2.length := by omega
        have kk5 : ((k2 : Int) + 1 + 1).toNat = k2 + 1 + 1 := by omega
        have kk6 : (List.map itD Lr2).take k2 = List.map itD Lr2 := List.take_of_length_le (by simp; omega)
        by_cases hcl : 128 ≤ d0
        · refine tree_lim rfl rfl ?_
          simp [-idx2_i, -at2_i, hat, hlt2, hxl, hcl, hzz, hzp, hc, hm4, h2, h3, hw, hp, f3, f4, f5, f6, hk, hk2, kd0, kd1, kk1, kk2, kk3, kk4, kk5, kk6] at ih ⊢
          simp [hw, ih]
        · refine tree_lim rfl rfl ?_
          simp [-idx2_i, -at2_i, hat, hlt2, hxl, hcl, hm4, h2, h3, hw, hp, f3, f4, f5, f6, hk, hk2, kd0, kd1, kk1, kk2, kk3, kk4, kk5, kk6] at ih ⊢
          simp [hw, ih]
  · -- put
    obtain ⟨h', L', q0, q1, q2, q3⟩ := putN_fn d1 d2 hx h L n (by omega) hn (by omega) s
    refine ⟨h', L', _, q1, by omega, by omega, by omega, fun out ih => ?_⟩
    generalize n + (d2.length : Int) = N at *
    rcases fin _ _ _ q1 with ⟨f1, f2⟩ | ⟨y, Lr2, f2, k2, f3, f4, f5, f6⟩
    · subst f1; subst f2
      by_cases hcl : 128 ≤ d0
      · refine tree_lim rfl rfl ?_
        simp [-idx2_i, -at2_i, hat, hlt2, hxl, hcl, hzz, hzp, hc, hm4, h2, h3, hw, q0, q3] at ih ⊢
        simp [hw, ih]
      · refine tree_lim rfl rfl ?_
        simp [-idx2_i, -at2_i, hat, hlt2, hxl, hcl, hm4, h2, h3, hw, q0, q3] at ih ⊢
        simp [hw, ih]
    · subst f2
      have hk : ¬ ((k2 : Int) + 1 = 0) := by omega
      have hk2 : (0 : Int) < (k2 : Int) + 1 := by omega
      by_cases hcl : 128 ≤ d0
      · refine tree_lim rfl rfl ?_
        simp [-idx2_i, -at2_i, hat, hlt2, hxl, hcl, hzz, hzp, hc, hm4, h2, h3, hw, q0, q3, f3, f4, f5, f6, hk, hk2] at ih ⊢
        simp [hw, ih]
      · refine tree_lim rfl rfl ?_
        simp [-idx2_i, -at2_i, hat, hlt2, hxl, hcl, hm4, h2, h3, hw, q0, q3, f3, f4, f5, f6, hk, hk2] at ih ⊢
        simp [hw, ih]
theorem plays0 (acts : List ActQ) (hlen : acts.length ≤ 80) (hok : ∀ x ∈ acts, 0 ≤ x.1 ∧ x.1 < 256) : ∀ (m i : Nat) (h L : List It) (n : Int), i + m = acts.length → Sim h L n → h.length ≤ 10 * i → 0 ≤ n → n ≤ 10 * i →
    TT.lim 2 [.l (L.map itD), .l (acts.map actG), .i .i64 (acts.length : Int), .i .i64 (i : Int), .l (h.map itG), .i .u64 n] = some [.i .i64 0, .b true] ∨ TT.lim 2 [.l (L.map itD), .l (acts.map actG), .i .i64 (acts.length : Int), .i .i64 (i : Int), .l (h.map itG), .i .u64 n] = some [.i .i64 1]
  | 0, i, h, L, n, hi, s, hl, hn, hn2 => by
    have e : acts.length = i := by omega
    refine .inr (tree_lim rfl rfl ?_)
    simp [e]
  | m + 1, i, h, L, n, hi, s, hl, hn, hn2 => by
    have hlt : i < acts.length := by omega
    by_cases hx : acts[i].2.2.length ≤ 10
    · obtain ⟨hx0, hx1⟩ := hok _ (List.getElem_mem hlt)
      obtain ⟨h', L', n', s', q1, q2, q3, q4⟩ := play_step acts i hlt hlen h L n s hl hn hn2 hx0 hx1 hx
      have ih := plays0 acts hlen hok m (i + 1) h' L' n' (by omega) s' q1 q2 q3
      have hcast : ((i + 1 : Nat) : Int) = (i : Int) + 1 := by omega
      rw [hcast] at ih
      exact ih.imp (q4 _) (q4 _)
    · have hlt2 : (i : Int) < acts.length := by omega
      have hx' : (10 : Int) < acts[i].2.2.length := by omega
      refine .inl (tree_lim rfl rfl ?_)
      simp [hlt, hlt2, hx']
theorem plays_tree (acts : List ActQ) (hok : ∀ x ∈ acts, 0 ≤ x.1 ∧ x.1 < 256) : TT.lim 1 [.l (acts.map actG)] = some [.b true] := by
  by_cases hl : 80 < acts.length
  · refine fn_lim rfl rfl ?_ rfl
    have hl' : (80 : Int) < acts.length := by omega
    simp [hl']
  · have hl' : ¬ (80 : Int) < acts.length := by omega
    have h0 := plays0 acts (by omega) hok acts.length 0 [] [] 0 (by omega) ⟨fun k h0 hk => by simp at hk, List.Perm.refl _, List.Pairwise.nil, fun x hx => by simp at hx⟩ (by simp) (by omega) (by omega)
    have h0 : TT.lim 2 [.l [], .l (acts.map actG), .i .i64 (acts.length : Int), .i .i64 0, .l [], .i .u64 0] = some [.i .i64 0, .b true] ∨ TT.lim 2 [.l [], .l (acts.map actG), .i .i64 (acts.length : Int), .i .i64 0, .l [], .i .u64 0] = some [.i .i64 1] := h0
    refine fn_lim rfl rfl ?_ rfl
    rcases h0 with h0 | h0
    · simp [hl', h0]
    · simp [hl', h0]
theorem queuePlays (gs : List GV) (h : hasArgs [(false, [.list true [.int .u8, .int .u64, .list false [.str]]])] gs) : TT.lim 1 gs = some [.b true] := by
  obtain ⟨l, gs, rfl, h1, h⟩ := hasA_sc h
  obtain rfl := hasA_nil h
  obtain ⟨xs, rfl, -, hx⟩ := has_list h1
  obtain ⟨acts, ha, rfl⟩ := list_map (f := actG) (p := fun x => 0 ≤ x.1 ∧ x.1 < 256) (xs := xs) fun x hx' => by
    obtain ⟨k1, k2⟩ := hx x hx'
    cases x <;> simp [GV.scalar] at k2
    obtain ⟨g1, r1, e1, a1, k1⟩ := hasL_cons k1
    obtain ⟨g2, r2, e2, a2, k1⟩ := hasL_cons k1
    obtain ⟨g3, r3, e3, a3, k1⟩ := hasL_cons k1
    have := hasL_nil k1
    subst this; subst e3; subst e2
    obtain ⟨n2, rfl, -⟩ := has_u64 a2
    obtain ⟨ts, rfl, -⟩ := has_strs a3
    simp only [GTy.has] at a1
    obtain ⟨n1, rfl, b1, b2⟩ := a1
    simp only [GV.cells] at e1
    refine ⟨(n1, n2, ts), ⟨by simpa [IntKind.min, IntKind.signed] using b1, by simp [IntKind.max, IntKind.signed, IntKind.bits] at b2; omega⟩, ?_⟩
    rw [e1]
    rfl
  exact plays_tree acts ha
end U
end Go.Proofs.YtbcpbplkgknnmaaGreatDoor
