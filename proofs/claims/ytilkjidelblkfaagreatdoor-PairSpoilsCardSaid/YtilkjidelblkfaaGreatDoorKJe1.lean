/- What the trees compute: plain laws. -/
import Derived.Test.YtilkjidelblkfaaGreatDoorKJT
import Derived.Test.YtilkjidelblkfaaGreatDoorAbsPl
import Derived.Test.YtilkjidelblkfaaGreatDoorAbsRun
import Derived.Test.YtilkjidelblkfaaGreatDoorAbsFields
import Derived.KernelRfl
namespace Go.Proofs.YtilkjidelblkfaaGreatDoor
open Go Go.Abs
set_option linter.unusedSimpArgs false
set_option linter.unusedVariables false
set_option maxRecDepth 100000
namespace J
theorem bytesLess_lt : ∀ a b : List UInt8, Op.bytesLess a b = decide (a < b)
  | _, [] => by simp [Op.bytesLess]
  | [], _ :: _ => by simp [Op.bytesLess]
  | a :: x, b :: y => by
    rw [Op.bytesLess, bytesLess_lt x y, Bool.eq_iff_iff]
    simp [List.cons_lt_cons_iff]
/-- An entry: key and value. A row: its entries and its number. -/
abbrev Ent := List UInt8 × List UInt8
abbrev Row := List Ent × Int
def ent (x : Ent) : GV := .g [.s x.1, .s x.2]
def row (r : Row) : GV := .g [.l (r.1.map ent), .i .u64 r.2]
@[simp] theorem ent_cells (x : Ent) : (ent x).cells = [.s x.1, .s x.2] := rfl
@[simp] theorem row_cells (r : Row) : (row r).cells = [.l (r.1.map ent), .i .u64 r.2] := rfl
@[simp] theorem ent_scalar (x : Ent) : (ent x).scalar = false := rfl
@[simp] theorem row_scalar (r : Row) : (row r).scalar = false := rfl
/-- Texts and lists of no more than any machine bears. -/
def Ents (d : List Ent) : Prop := d.length ≤ 140737488351232 ∧ ∀ x ∈ d, x.1.length ≤ 140737488351232 ∧ x.2.length ≤ 140737488351232
def Rows (l : List Row) : Prop := l.length ≤ 140737488351232 ∧ ∀ r ∈ l, Ents r.1 ∧ 0 ≤ r.2 ∧ r.2 < 18446744073709551616
def fewE (x : Ent) : Bool := decide (x.1.length + x.2.length ≤ 600)
def few12 (d : List Ent) : Bool := d.all fewE && decide (d.length ≤ 40)
def vput (n : Nat) : List UInt8 := if n < 128 then [UInt8.ofNat n] else UInt8.ofNat (n % 128 + 128) :: vput (n / 128)
termination_by n
decreasing_by omega
@[simp] theorem byteGs_length (a : List UInt8) : (byteGs a).length = a.length := by simp [byteGs]
theorem bytesG_byteGs : ∀ a : List UInt8, bytesG (byteGs a) = some a
  | [] => rfl
  | x :: a => by
    have ih := bytesG_byteGs a
    simp only [byteGs, List.map_cons, bytesG] at ih ⊢
    have := x.toNat_lt
    rw [if_pos (by omega), ih]
    simp
def entPut (x : Ent) : List UInt8 := vput x.1.length ++ x.1 ++ vput x.2.length ++ x.2
def keyF (d : List Ent) : List UInt8 := vput d.length ++ d.flatMap entPut
def utfChk (s : List UInt8) (lo hi : Int) : Int := if (s.length : Int) < lo then 13 else if hi < (s.length : Int) then 13 else if Lib.validD s = true then 0 else 11
def entChk (x : Ent) : Int := if utfChk x.1 1 64 ≠ 0 then utfChk x.1 1 64 else utfChk x.2 0 256
def chkL : Option (List UInt8) → List Ent → Int
  | _, [] => 0
  | p, x :: xs => if entChk x ≠ 0 then entChk x else match p with
    | none => chkL (some x.1) xs
    | some k => if x.1 = k then 14 else if Op.bytesLess x.1 k = true then 7 else chkL (some x.1) xs
def descrChk (d : List Ent) : Int := if d.length = 0 then 12 else if 16 < d.length then 13 else chkL none d
def rowChk (r : Row) : Int := if descrChk r.1 ≠ 0 then descrChk r.1 else if r.2 = 0 then 18 else 0
abbrev K (r : Row) : List UInt8 := keyF r.1
/-- How many rows at the head have lesser keys. -/
def adv (k : List UInt8) : List Row → Nat
  | [] => 0
  | r :: rs => if Op.bytesLess (K r) k = true then adv k rs + 1 else 0
theorem drop_adv (k : List UInt8) : ∀ t : List Row, t.drop (adv k t) = t.dropWhile fun r => Op.bytesLess (K r) k
  | [] => rfl
  | r :: rs => by
    unfold adv
    cases h : Op.bytesLess (K r) k with
    | true => simp [h, drop_adv k rs]
    | false => simp [h]
def atL : List Row → List Row → Bool
  | _, [] => true
  | t, r :: rs => match t.drop (adv (K r) t) with
    | [] => false
    | s :: t' => decide (K s = K r) && decide (r.2 ≤ s.2) && atL (s :: t') rs
theorem bl_iff (a b : List UInt8) : Op.bytesLess a b = true ↔ a < b := by rw [bytesLess_lt]; simp
/-- Rows whose keys rise. -/
def Rise (l : List Row) : Prop := l.Pairwise fun a b => K a < K b
theorem atL_iff : ∀ (b t : List Row), Rise t → Rise b → (atL t b = true ↔ ∀ r ∈ b, ∃ s ∈ t, K s = K r ∧ r.2 ≤ s.2)
  | [], t, _, _ => by simp [atL]
  | r :: rs, t, ht, hb => by
    have hrs := List.pairwise_cons.1 hb
    have hdw := drop_adv (K r) t
    have htd : Rise (t.drop (adv (K r) t)) := ht.sublist (List.drop_sublist _ _)
    have hsub : ∀ s ∈ t.drop (adv (K r) t), s ∈ t := fun s hs => (List.drop_sublist _ _).subset hs
    -- what is not dropped
    have hkeep : ∀ (u : List Row), (∀ s ∈ u, s ∈ t.dropWhile (fun x => Op.bytesLess (K x) (K r)) ∨ K s < K r) → True := fun _ _ => trivial
    have hin : ∀ s ∈ t, ¬ K s < K r → s ∈ t.drop (adv (K r) t) := by
      intro s hs hn
      rw [hdw]
      clear hkeep hsub htd hdw ht
      induction t with
      | nil => simp at hs
      | cons a t ih =>
        rw [List.dropWhile_cons]
        split
        · next ha =>
          rcases List.mem_cons.1 hs with rfl | hs
          · exact absurd ((bl_iff _ _).1 ha) hn
          · exact ih hs
        · exact hs
    have hhead : ∀ s t', t.drop (adv (K r) t) = s :: t' → ¬ K s < K r := by
      intro s t' e
      rw [hdw] at e
      have := List.head?_dropWhile_not (fun x => Op.bytesLess (K x) (K r)) t
      rw [e] at this
      simp only [List.head?_cons, Option.all_some, Bool.not_eq_true'] at this
      intro hlt
      rw [(bl_iff _ _).2 hlt] at this
      cases this
    unfold atL
    cases e : t.drop (adv (K r) t) with
    | nil =>
      simp only [Bool.false_eq_true, false_iff]
      intro h
      obtain ⟨s, hs, hk, _⟩ := h r (by simp)
      have := hin s hs (by rw [hk]; exact List.lt_irrefl _)
      rw [e] at this; simp at this
    | cons s t' =>
      simp only [Bool.and_eq_true, decide_eq_true_iff]
      rw [e] at htd hsub hin
      rw [atL_iff rs (s :: t') htd hrs.2]
      have hst := List.pairwise_cons.1 htd
      constructor
      · rintro ⟨⟨h1, h2⟩, h3⟩ x hx
        rcases List.mem_cons.1 hx with rfl | hx
        · exact ⟨s, hsub s (by simp), h1, h2⟩
        · obtain ⟨y, hy, h4⟩ := h3 x hx
          exact ⟨y, hsub y hy, h4⟩
      · intro h
        obtain ⟨y, hy, hk, hn⟩ := h r (by simp)
        have hy2 := hin y hy (by rw [hk]; exact List.lt_irrefl _)
        have hys : y = s := by
          rcases List.mem_cons.1 hy2 with rfl | hy2
          · rfl
          · have := hst.1 y hy2
            rw [hk] at this
            exact absurd this (hhead s t' e)
        subst hys
        refine ⟨⟨hk, hn⟩, fun x hx => ?_⟩
        obtain ⟨z, hz, h4, h5⟩ := h x (by simp [hx])
        refine ⟨z, hin z hz ?_, h4, h5⟩
        rw [h4]
        exact fun hlt => List.lt_irrefl _ (List.lt_trans hlt (hrs.1 x hx))
theorem atL_trans {a b c : List Row} (ha : Rise a) (hb : Rise b) (hc : Rise c) (h1 : atL a b = true) (h2 : atL b c = true) : atL a c = true := by
  rw [atL_iff _ _ ha hb] at h1
  rw [atL_iff _ _ hb hc] at h2
  rw [atL_iff _ _ ha hc]
  intro r hr
  obtain ⟨s, hs, k1, n1⟩ := h2 r hr
  obtain ⟨u, hu, k2, n2⟩ := h1 s hs
  exact ⟨u, hu, k2.trans k1, Int.le_trans n1 n2⟩
def chkR : Option (List UInt8) → List Row → Int
  | _, [] => 0
  | p, r :: rs => if rowChk r ≠ 0 then rowChk r else match p with
    | none => chkR (some (K r)) rs
    | some k => if K r = k then 14 else if Op.bytesLess (K r) k = true then 7 else chkR (some (K r)) rs
def checkT (t : List Row) : Int := if 256 < t.length then 13 else chkR none t
theorem chkR_rise : ∀ {t : List Row} (p : Option (List UInt8)), Rise t → (∀ r ∈ t, rowChk r = 0) → (∀ k, p = some k → ∀ r ∈ t, k < K r) → chkR p t = 0
  | [], p, _, _, _ => by cases p <;> rfl
  | r :: t, p, ht, hc, hp => by
    have ht' := List.pairwise_cons.1 ht
    have ih := chkR_rise (t := t) (some (K r)) ht'.2 (fun x hx => hc x (by simp [hx])) (fun k hk x hx => by cases hk; exact ht'.1 x hx)
    unfold chkR
    rw [if_neg (by simp [hc r (by simp)])]
    cases p with
    | none => exact ih
    | some k =>
      have hk := hp k rfl r (by simp)
      have h1 : ¬ K r = k := fun e => by rw [e] at hk; exact List.lt_irrefl _ hk
      have h2 : ¬ Op.bytesLess (K r) k = true := fun e => List.lt_irrefl _ (List.lt_trans hk ((bl_iff _ _).1 e))
      simp only
      rw [if_neg h1, if_neg h2]
      exact ih
theorem Rows.perm {l m : List Row} (h : l.Perm m) (hl : Rows l) : Rows m := ⟨by rw [← h.length_eq]; exact hl.1, fun r hr => hl.2 r (h.mem_iff.2 hr)⟩
theorem has_u16 {g : GV} (h : (GTy.int .u16).has g) : ∃ n, g = .i .u16 n ∧ 0 ≤ n ∧ n < 65536 := by
  simp only [GTy.has] at h
  obtain ⟨n, rfl, h1, h2⟩ := h
  exact ⟨n, rfl, by simpa [IntKind.min, IntKind.signed] using h1, by simp [IntKind.max, IntKind.signed, IntKind.bits] at h2; omega⟩
def Pos (t : List Row) : Prop := ∀ r ∈ t, 0 < r.2 ∧ r.2 < 18446744073709551616
def mergeR : List Row → List Row → Option (List Row)
  | [], b => some b
  | x :: a, [] => some (x :: a)
  | x :: a, y :: b =>
    if K x < K y then (mergeR a (y :: b)).map (x :: ·)
    else if K y < K x then (mergeR (x :: a) b).map (y :: ·)
    else if x.2 + y.2 < 18446744073709551616 then (mergeR a b).map ((x.1, x.2 + y.2) :: ·) else none
termination_by a b => a.length + b.length
def Few (t : List Row) : Prop := ∀ r ∈ t, few12 r.1 = true
def Ok (t : List Row) : Prop := t.length ≤ 256 ∧ Rise t ∧ ∀ r ∈ t, rowChk r = 0
theorem chkR_inv : ∀ {t : List Row} (p : Option (List UInt8)), chkR p t = 0 → Rise t ∧ (∀ r ∈ t, rowChk r = 0) ∧ ∀ k, p = some k → ∀ r ∈ t, k < K r
  | [], p, _ => ⟨List.Pairwise.nil, by simp, by simp⟩
  | r :: t, p, h => by
    unfold chkR at h
    by_cases h1 : rowChk r = 0
    rotate_left
    · rw [if_pos h1] at h; exact absurd h h1
    rw [if_neg (by simp [h1])] at h
    have main : ∀ (h : chkR (some (K r)) t = 0), Rise (r :: t) ∧ ∀ x ∈ r :: t, rowChk x = 0 := by
      intro h
      obtain ⟨i1, i2, i3⟩ := chkR_inv (some (K r)) h
      refine ⟨List.Pairwise.cons (i3 _ rfl) i1, fun x hx => ?_⟩
      rcases List.mem_cons.1 hx with rfl | hx
      · exact h1
      · exact i2 x hx
    cases p with
    | none => exact ⟨(main h).1, (main h).2, by simp⟩
    | some k =>
      simp only at h
      split at h
      · cases h
      next h2 =>
      split at h
      · cases h
      next h3 =>
      refine ⟨(main h).1, (main h).2, ?_⟩
      rintro _ ⟨⟩ x hx
      have hk : k < K r := by
        rcases List.le_iff_lt_or_eq.1 (List.not_lt.1 fun e => h3 ((bl_iff _ _).2 e)) with e | e
        · exact e
        · exact absurd e.symm h2
      rcases List.mem_cons.1 hx with rfl | hx
      · exact hk
      · exact List.lt_trans hk ((List.pairwise_cons.1 (main h).1).1 x hx)
theorem checkT_iff (t : List Row) : checkT t = 0 ↔ Ok t := by
  unfold checkT Ok
  constructor
  · intro h
    split at h
    · cases h
    · obtain ⟨h1, h2, _⟩ := chkR_inv none h
      exact ⟨by omega, h1, h2⟩
  · rintro ⟨h1, h2, h3⟩
    rw [if_neg (by omega)]
    exact chkR_rise none h2 h3 (by simp)
theorem rowChk_iff (r : Row) : rowChk r = 0 ↔ descrChk r.1 = 0 ∧ r.2 ≠ 0 := by
  unfold rowChk
  by_cases h : descrChk r.1 = 0
  · simp [h]
  · simp [h]
structure Tb (t : List Row) : Prop where
  ok : Ok t
  rows : Rows t
  few : Few t
theorem Tb.pos {t : List Row} (h : Tb t) : Pos t := fun r hr => by
  have h1 := ((rowChk_iff r).1 (h.ok.2.2 r hr)).2
  have h2 := (h.rows.2 r hr).2
  omega
theorem Tb.rise {t : List Row} (h : Tb t) : Rise t := h.ok.2.1
def tog (a b : List Row) : List Row × Int := match mergeR a b with
  | none => ([], 3)
  | some m => if 256 < m.length then ([], 13) else (m, 0)
structure GoodT (t : List Row) : Prop where
  len : t.length ≤ 300
  few : Few t
  rows : Rows t
abbrev Dl := Int × Int × List Row
def chkD (d : Dl) : Int := if d.2.1 ≤ d.1 then 20 else checkT d.2.2
theorem GoodT.tb {t : List Row} (h : GoodT t) (ho : Ok t) : Tb t := ⟨ho, h.rows, h.few⟩
abbrev Sn := Int × List Row
def sn (s : Sn) : GV := .g [.i .u64 s.1, .l (s.2.map row)]
@[simp] theorem sn_cells (s : Sn) : (sn s).cells = [.i .u64 s.1, .l (s.2.map row)] := rfl
@[simp] theorem sn_scalar (s : Sn) : (sn s).scalar = false := rfl
def zS : Sn := (0, [])
def applyS (s : Sn) (d : Dl) : Sn × Int :=
  if checkT s.2 ≠ 0 then (zS, checkT s.2) else if chkD d ≠ 0 then (zS, chkD d) else if s.1 ≠ d.1 then (zS, 19)
  else if (tog s.2 d.2.2).2 ≠ 0 then (zS, (tog s.2 d.2.2).2) else ((d.2.1, (tog s.2 d.2.2).1), 0)
structure TOk (t : List Row) : Prop where
  ok : Ok t
  few : Few t
  rows : Rows t
theorem TOk.tb {t : List Row} (h : TOk t) : checkT t = 0 := (checkT_iff t).2 h.ok
theorem TOk.len {t : List Row} (h : TOk t) : t.length ≤ 256 := h.ok.1
inductive Fld where
  | mk (tag typ num : Int) (text : List UInt8) (l : List Fld)
mutual
def fldG : Fld → GV
  | .mk t y n s l => .g [.i .u64 t, .i .i64 y, .i .u64 n, .s s, .l (fldsG l)]
def fldsG : List Fld → List GV
  | [] => []
  | f :: l => fldG f :: fldsG l
end
mutual
def szF : Fld → Nat
  | .mk _ _ _ _ l => szL l + 1
def szL : List Fld → Nat
  | [] => 0
  | f :: l => szF f + szL l + 1
end
@[simp] theorem fldG_cells (t y n : Int) (s : List UInt8) (k : List Fld) : (fldG (.mk t y n s k)).cells = [.i .u64 t, .i .i64 y, .i .u64 n, .s s, .l (fldsG k)] := by simp only [fldG]; rfl
abbrev It := Int × Int × List UInt8
def ltI (a b : It) : Bool := if a.1 = b.1 then decide (a.2.1 < b.2.1) else decide (a.1 < b.1)
def leI (a b : It) : Prop := ltI b a = false
def dI : It := (0, 0, [])
abbrev at_ (h : List It) (i : Nat) : It := h.getD i dI
def par (k : Nat) : Nat := (k - 1) / 2
def Heap (h : List It) (n : Nat) : Prop := ∀ k, 0 < k → k < n → leI (at_ h (par k)) (at_ h k)
structure Sim (h L : List It) (n : Int) : Prop where
  heap : Heap h h.length
  perm : L.Perm h
  srt : L.Pairwise (fun x y => ltI x y = true)
  low : ∀ x ∈ L, x.2.1 < n
theorem Sim.len {h L : List It} {n : Int} (s : Sim h L n) : h.length = L.length := s.perm.length_eq.symm
/-- What may be kept. -/
structure Kp (k : List Sn) : Prop where
  len : k.length ≤ 8
  tb : ∀ s ∈ k, Tb s.2
  pos : ∀ s ∈ k, 0 < s.1 ∧ s.1 < 18446744073709551616
  rise : k.Pairwise fun a b => a.1 < b.1 ∧ atL b.2 a.2 = true
theorem Kp.nil : Kp [] := ⟨by decide, by simp, by simp, List.Pairwise.nil⟩
/-- One more. -/
def addS (x : Sn) (b : Int) : List Sn → List Sn × Int
  | [] => ([x], b)
  | y :: r => if 8 < r.length + 2 then (r ++ [x], if y.1 = b then 0 else b) else (y :: r ++ [x], b)
theorem last_at {k : List Sn} {l : Sn} (h : k.getLast? = some l) : ∃ m, k.length = m + 1 ∧ k[m]? = some l ∧ l ∈ k := by
  cases hk : k with
  | nil => subst hk; simp at h
  | cons y r =>
    refine ⟨r.length, by simp, ?_, ?_⟩
    · rw [← hk, ← h, List.getLast?_eq_getElem?, hk]; simp
    · rw [← hk]; exact List.mem_of_getLast? h
theorem last_none {k : List Sn} (h : k.getLast? = none) : k = [] := List.getLast?_eq_none_iff.1 h
theorem Kp.add {k : List Sn} (hk : Kp k) {x : Sn} {b : Int} (hx : Tb x.2) (h0 : 0 < x.1 ∧ x.1 < 18446744073709551616) (hl : ∀ l, k.getLast? = some l → l.1 < x.1 ∧ atL x.2 l.2 = true) : Kp (addS x b k).1 := by
  have hall : ∀ s ∈ k, s.1 < x.1 ∧ atL x.2 s.2 = true := by
    intro s hs
    obtain ⟨i, hi, rfl⟩ := List.getElem_of_mem hs
    cases hg : k.getLast? with
    | none => exact absurd hi (by rw [last_none hg]; simp)
    | some l =>
      obtain ⟨m, hm, ha, hmem⟩ := last_at hg
      obtain ⟨c1, c2⟩ := hl l hg
      have hml : m < k.length := by omega
      have hml2 : k[m] = l := by have := List.getElem?_eq_getElem hml; rw [ha] at this; injection this with this; exact this.symm
      rcases Nat.lt_or_ge i m with him | him
      · have hp := List.pairwise_iff_getElem.1 hk.rise i m hi hml him
        rw [hml2] at hp
        exact ⟨by omega, atL_trans hx.rise (hk.tb l hmem).rise (hk.tb _ (List.getElem_mem hi)).rise c2 hp.2⟩
      · have : i = m := by omega
        subst this
        simp only [hml2]; exact ⟨c1, c2⟩
  cases k with
  | nil => exact ⟨by simp [addS], by simpa [addS] using hx, by simpa [addS] using h0, by simp [addS]⟩
  | cons y r =>
    have hr : Kp r := ⟨by have := hk.len; simp at this; omega, fun s hs => hk.tb s (by simp [hs]), fun s hs => hk.pos s (by simp [hs]), (List.pairwise_cons.1 hk.rise).2⟩
    have h8 := hk.len
    simp only [List.length_cons] at h8
    simp only [addS]
    split
    · refine ⟨by simp; omega, ?_, ?_, ?_⟩
      · intro s hs
        rcases List.mem_append.1 hs with h | h
        · exact hr.tb s h
        · rw [List.mem_singleton.1 h]; exact hx
      · intro s hs
        rcases List.mem_append.1 hs with h | h
        · exact hr.pos s h
        · rw [List.mem_singleton.1 h]; exact h0
      · refine List.pairwise_append.2 ⟨hr.rise, by simp, fun a ha b hb => ?_⟩
        rw [List.mem_singleton.1 hb]; exact hall a (by simp [ha])
    · refine ⟨by simp; omega, ?_, ?_, ?_⟩
      · intro s hs
        rcases List.mem_append.1 hs with h | h
        · exact hk.tb s h
        · rw [List.mem_singleton.1 h]; exact hx
      · intro s hs
        rcases List.mem_append.1 hs with h | h
        · exact hk.pos s h
        · rw [List.mem_singleton.1 h]; exact h0
      · refine List.pairwise_append.2 ⟨hk.rise, by simp, fun a ha b hb => ?_⟩
        rw [List.mem_singleton.1 hb]; exact hall a ha
theorem Kp.drop {k : List Sn} (hk : Kp k) (i : Nat) : Kp (k.drop i) :=
  ⟨by have := hk.len; rw [List.length_drop]; omega, fun s hs => hk.tb s (List.mem_of_mem_drop hs), fun s hs => hk.pos s (List.mem_of_mem_drop hs), hk.rise.sublist (List.drop_sublist i k)⟩
theorem has_u8 {g : GV} (h : (GTy.int .u8).has g) : ∃ n, g = .i .u8 n ∧ 0 ≤ n ∧ n < 256 := by
  simp only [GTy.has] at h
  obtain ⟨n, rfl, b1, b2⟩ := h
  exact ⟨n, rfl, by simpa [IntKind.min, IntKind.signed] using b1, by simp [IntKind.max, IntKind.signed, IntKind.bits] at b2; omega⟩
/-- What was published by its epoch. -/
def MapOk (xs : List GV) (k : List Sn) : Prop := ∀ s ∈ k, assocG (.i .u64 s.1) xs = some (sn s)
structure Lead (xs : List GV) (k : List Sn) (b : Int) : Prop where
  kp : Kp k
  map : MapOk xs k
  base : b = 0 ∨ ∃ s ∈ k, s.1 = b
abbrev An := Int × Int × Int × Int
/-- A message of a sender. -/
abbrev Tm := Int × Int × Int × List Row
def GoodM (xs : List GV) (m : Tm) : Prop :=
  (m.1 = 5 ∧ Tb m.2.2.2 ∧ (0 < m.2.1 ∧ m.2.1 < 18446744073709551616) ∧ m.2.2.1 = 0 ∧ assocG (.i .u64 m.2.1) xs = some (sn (m.2.1, m.2.2.2))) ∨
  (m.1 = 6 ∧ Tb m.2.2.2 ∧ (0 < m.2.2.1 ∧ m.2.2.1 < m.2.1 ∧ m.2.1 < 18446744073709551616) ∧ ∃ s l : Sn, assocG (.i .u64 m.2.2.1) xs = some (sn s) ∧ assocG (.i .u64 m.2.1) xs = some (sn l) ∧ l.1 = m.2.1 ∧ s.1 = m.2.2.1 ∧ Tb l.2 ∧ applyS s (m.2.2.1, m.2.1, m.2.2.2) = (l, 0))
/-- A sender and a receiver, and what was told between them. -/
structure Foll (xs : List GV) (told : List Tm) (back : List An) (k : List Sn) (b : Int) (sm : Bool) (h : Sn) : Prop where
  lead : Lead xs k b
  keys : ∀ e g, assocG (.i .u64 e) xs = some g → ∃ l, k.getLast? = some l ∧ e ≤ l.1
  told : ∀ m ∈ told, GoodM xs m
  back : ∀ a ∈ back, a.1 = 7 → sm = true ∧ a.2.1 ≤ h.1
  has : (sm = true ∧ assocG (.i .u64 h.1) xs = some (sn h) ∧ Tb h.2) ∨ (sm = false ∧ h = zS)
  base : b ≤ 0 ∨ (sm = true ∧ b ≤ h.1)
  zero : assocG (.i .u64 0) xs = none
theorem Foll.getD {xs : List GV} {told : List Tm} {back : List An} {k : List Sn} {b : Int} {sm : Bool} {h : Sn} (f : Foll xs told back k b sm h) : (assocG (.i .u64 h.1) xs).getD (.g [.i .u64 0, .l []]) = sn h := by
  rcases f.has with ⟨-, q, -⟩ | ⟨-, q⟩
  · rw [q]; rfl
  · rw [q]
    show (assocG (.i .u64 0) xs).getD _ = _
    rw [f.zero]; rfl
mutual
def toFt : Fld → Ft
  | .mk t y n s k => .mk [.int .u64 t, .int .i64 y, .int .u64 n, .string ⟨⟨s⟩⟩] (toFts k)
def toFts : List Fld → List Ft
  | [] => []
  | f :: l => toFt f :: toFts l
end
mutual
theorem toFt_is : ∀ f : Fld, isFt (toFt f) (fldG f) ∧ cntF (toFt f) ≤ szF f
  | .mk t y n s k => by
    have h := toFts_is k
    simp only [toFt, isFt, fldG, cntF, szF]
    exact ⟨⟨_, _, _, _, _, rfl, rfl, h.1⟩, by omega⟩
theorem toFts_is : ∀ l : List Fld, isFts (toFts l) (fldsG l) ∧ cntFs (toFts l) ≤ szL l
  | [] => by simp only [toFts, isFts, fldsG, cntFs, szL]; exact ⟨trivial, Nat.le_refl _⟩
  | f :: l => by
    have h1 := toFt_is f
    have h2 := toFts_is l
    simp only [toFts, isFts, fldsG, cntFs, szL]
    exact ⟨⟨_, _, rfl, h1.1, h2.1⟩, by omega⟩
end
theorem fclone_fl (l : List Fld) (hs : szL l ≤ 1000000) : TT.lim 87 [.l (fldsG l)] = some [.l (fldsG l)] := by
  refine prim_lim (Ds := Ds) (k := 87) (f := fcloneP) rfl ?_
  have h := toFts_is l
  unfold fcloneP
  exact if_pos ⟨toFts l, h.1, by omega⟩
def crTab : List Nat := sumsL.map Int.toNat
def crNib (y : Nat) : Nat := (y >>> 4) ^^^ (crTab[y % 16]?.getD 0)
def crStep (x b : Nat) : Nat := crNib (crNib (x ^^^ b))
def crcS : Nat → List UInt8 → Nat
  | x, [] => x
  | x, b :: l => crcS (crStep x b.toNat) l
theorem crTab_lt : ∀ i : Nat, i < 16 → (crTab[i]?.getD 0) < 4294967296 := by decide
theorem crTab_top : ∀ i : Nat, i < 16 → ∀ j : Nat, j < 16 → (crTab[i]?.getD 0) >>> 28 = (crTab[j]?.getD 0) >>> 28 → i = j := by decide
theorem crShr {y k m : Nat} (h : y < 2 ^ (k + m)) : y >>> k < 2 ^ m := by
  rw [Nat.shiftRight_eq_div_pow]
  rw [Nat.div_lt_iff_lt_mul (Nat.two_pow_pos k), ← Nat.pow_add, Nat.add_comm]; exact h
theorem crNib_lt {y : Nat} (h : y < 4294967296) : crNib y < 4294967296 := by
  unfold crNib
  have h1 : y >>> 4 < 2 ^ 28 := crShr (k := 4) (m := 28) h
  exact Nat.xor_lt_two_pow (n := 32) (by omega) (crTab_lt _ (Nat.mod_lt _ (by omega)))
theorem crNib_inj {y y' : Nat} (h : y < 4294967296) (h' : y' < 4294967296) (e : crNib y = crNib y') : y = y' := by
  have h1 : y >>> 4 < 2 ^ 28 := crShr (k := 4) (m := 28) h
  have h2 : y' >>> 4 < 2 ^ 28 := crShr (k := 4) (m := 28) h'
  have z1 : (y >>> 4) >>> 28 = 0 := by rw [Nat.shiftRight_eq_div_pow]; exact Nat.div_eq_of_lt h1
  have z2 : (y' >>> 4) >>> 28 = 0 := by rw [Nat.shiftRight_eq_div_pow]; exact Nat.div_eq_of_lt h2
  unfold crNib at e
  have e28 := congrArg (· >>> 28) e
  simp only [Nat.shiftRight_xor_distrib, z1, z2, Nat.zero_xor] at e28
  have em : y % 16 = y' % 16 := crTab_top _ (Nat.mod_lt _ (by omega)) _ (Nat.mod_lt _ (by omega)) e28
  rw [em] at e
  have e4 : y >>> 4 = y' >>> 4 := by
    have := congrArg (· ^^^ (crTab[y' % 16]?.getD 0)) e
    simpa only [Nat.xor_assoc, Nat.xor_self, Nat.xor_zero] using this
  rw [Nat.shiftRight_eq_div_pow, Nat.shiftRight_eq_div_pow] at e4
  omega
theorem crCancel {x x' b : Nat} (h : x ^^^ b = x' ^^^ b) : x = x' := by
  have := congrArg (· ^^^ b) h
  simpa only [Nat.xor_assoc, Nat.xor_self, Nat.xor_zero] using this
theorem xor32_lt {x b : Nat} (h : x < 4294967296) (hb : b < 256) : x ^^^ b < 4294967296 := Nat.xor_lt_two_pow (n := 32) h (by omega)
theorem crStep_lt {x b : Nat} (h : x < 4294967296) (hb : b < 256) : crStep x b < 4294967296 := crNib_lt (crNib_lt (xor32_lt h hb))
theorem crStep_inj {x x' b b' : Nat} (h : x < 4294967296) (h' : x' < 4294967296) (hb : b < 256) (hb' : b' < 256) (e : crStep x b = crStep x' b') : x ^^^ b = x' ^^^ b' :=
  crNib_inj (xor32_lt h hb) (xor32_lt h' hb') (crNib_inj (crNib_lt (xor32_lt h hb)) (crNib_lt (xor32_lt h' hb')) e)
theorem crcS_lt : ∀ (l : List UInt8) (x : Nat), x < 4294967296 → crcS x l < 4294967296
  | [], _, h => h
  | b :: l, x, h => crcS_lt l _ (crStep_lt h b.toNat_lt)
theorem crcS_ne : ∀ (l : List UInt8) (x x' : Nat), x < 4294967296 → x' < 4294967296 → x ≠ x' → crcS x l ≠ crcS x' l
  | [], _, _, _, _, hn => hn
  | b :: l, x, x', h, h', hn => crcS_ne l _ _ (crStep_lt h b.toNat_lt) (crStep_lt h' b.toNat_lt) fun e => hn (crCancel (crStep_inj h h' b.toNat_lt b.toNat_lt e))
/-- A byte turned: another sum. -/
theorem crcS_turn : ∀ (l : List UInt8) (r : Nat) (c : UInt8) (x : Nat), x < 4294967296 → (hr : r < l.length) → c ≠ l[r] → crcS x (l.set r c) ≠ crcS x l
  | b :: l, 0, c, x, h, _, hc => by
    simp only [List.set_cons_zero, crcS]
    refine crcS_ne l _ _ (crStep_lt h c.toNat_lt) (crStep_lt h b.toNat_lt) fun e => hc ?_
    have e2 := crStep_inj h h c.toNat_lt b.toNat_lt e
    rw [Nat.xor_comm x, Nat.xor_comm x] at e2
    exact UInt8.toNat_inj.1 (crCancel e2)
  | b :: l, r + 1, c, x, h, hr, hc => by
    simp only [List.set_cons_succ, crcS]
    exact crcS_turn l r c _ (crStep_lt h b.toNat_lt) (by simpa using hr) (by simpa using hc)
theorem ofInt_nat (w n : Nat) : BitVec.ofInt w (n : Int) = BitVec.ofNat w n := by
  apply BitVec.eq_of_toNat_eq
  simp
theorem xor_node {k : IntKind} {a b : Nat} (hk : k.signed = false) (ha : a < 2 ^ k.bits) (hb : b < 2 ^ k.bits) : binG .xor (.i k a) (.i k b) = some (.i k (a ^^^ b : Nat)) := by
  have h : (BitVec.ofInt k.bits (a : Int) ^^^ BitVec.ofInt k.bits (b : Int)).toNat = a ^^^ b := by
    rw [BitVec.toNat_xor, ofInt_nat, ofInt_nat, BitVec.toNat_ofNat, BitVec.toNat_ofNat, Nat.mod_eq_of_lt ha, Nat.mod_eq_of_lt hb]
  have hx : a ^^^ b < 2 ^ k.bits := Nat.xor_lt_two_pow ha hb
  simp only [binG, intG, if_true]
  rw [h]
  congr 2
  revert hk ha hb hx
  cases k <;> simp [IntKind.signed, IntKind.wrap, IntKind.bits] <;> omega
theorem and15_node {a : Nat} (ha : a < 4294967296) : binG .and (.i .u32 a) (.i .u32 15) = some (.i .u32 (a % 16 : Nat)) := by
  have h : (BitVec.ofInt IntKind.u32.bits (a : Int) &&& BitVec.ofInt IntKind.u32.bits (15 : Int)).toNat = a % 16 := by
    rw [BitVec.toNat_and, ofInt_nat, show (15 : Int) = ((15 : Nat) : Int) from rfl, ofInt_nat, BitVec.toNat_ofNat, BitVec.toNat_ofNat, Nat.mod_eq_of_lt (show a < 2 ^ IntKind.u32.bits from ha)]
    exact Nat.and_two_pow_sub_one_eq_mod a 4
  simp only [binG, intG, if_true]
  rw [h]
  congr 2
  simp [IntKind.wrap, IntKind.bits, IntKind.signed]; omega
theorem shr4_node {a : Nat} : binG .shr (.i .u32 a) (.i .u64 4) = some (.i .u32 (a >>> 4 : Nat)) := by
  simp only [binG, shG]
  rw [if_neg (by omega)]
  have : min (4 : Int).toNat IntKind.u32.bits = 4 := rfl
  rw [this, Nat.shiftRight_eq_div_pow, Int.fdiv_eq_ediv_of_nonneg _ (by omega)]
  simp
theorem add1_node {k : Nat} (h : k < 4611686018427387904) : binG .add (.i .i64 k) (.i .i64 1) = some (.i .i64 ((k + 1 : Nat) : Int)) := by
  simp only [binG, intG, if_true]
  congr 2
  simp [IntKind.wrap, IntKind.bits, IntKind.signed]; omega
def crArg (x : Int) (t : List UInt8) (g2 g3 g4 : GV) (n k : Int) : List GV := .i .u32 x :: .s t :: g2 :: g3 :: g4 :: .i .i64 n :: .i .i64 k :: sumsL.map fun m => .i .u32 m
def crTs (i j : Nat) (b : UInt8) (y y4 z z4 w k' : Int) : List (Nat × GV) := [(23, .b true), (24, .i .u8 b.toNat), (25, .i .u32 b.toNat), (26, .i .u32 y), (28, .i .u32 y4), (30, .i .u32 i), (32 + i, .i .u32 z), (33 + i, .i .u32 z4), (34 + i, .i .u32 j), (36 + i + j, .i .u32 w), (38 + i + j, .i .i64 k')]
def crLg (i j : Nat) (b : UInt8) (x y y4 z z4 w k k' n : Int) (t : List UInt8) (g2 g3 g4 : GV) (X : List GV) : List Owe := [.node (.bin .lss 0 1) [.i .i64 k, .i .i64 n] (.b true), .node (.sidx 0 1) [.s t, .i .i64 k] (.i .u8 b.toNat), .node (.conv .u32 0) [.i .u8 b.toNat] (.i .u32 b.toNat), .node (.bin .xor 0 1) [.i .u32 x, .i .u32 b.toNat] (.i .u32 y),
  .node (.bin .shr 0 1) [.i .u32 y, .i .u64 4] (.i .u32 y4), .node (.bin .and 0 1) [.i .u32 y, .i .u32 15] (.i .u32 i), .node (.bin .xor 0 1) [.i .u32 y4, .i .u32 (crTab[i]?.getD 0 : Nat)] (.i .u32 z), .node (.bin .shr 0 1) [.i .u32 z, .i .u64 4] (.i .u32 z4), .node (.bin .and 0 1) [.i .u32 z, .i .u32 15] (.i .u32 j), .node (.bin .xor 0 1) [.i .u32 z4, .i .u32 (crTab[j]?.getD 0 : Nat)] (.i .u32 w), .node (.bin .add 0 1) [.i .i64 k, .i .i64 1] (.i .i64 k'), .call 12 (crArg w t g2 g3 g4 n k') X]
theorem crBody (i j : Nat) (hi : i < 16) (hj : j < 16) (b : UInt8) (x y y4 z z4 w k k' n : Int) (t : List UInt8) (g2 g3 g4 : GV) (X : List GV) :
    TT.bodyL X (crTs i j b y y4 z z4 w k') 12 (crArg x t g2 g3 g4 n k) = some (X, crLg i j b x y y4 z z4 w k k' n t g2 g3 g4 X) := by
  have ei : i = 0 ∨ i = 1 ∨ i = 2 ∨ i = 3 ∨ i = 4 ∨ i = 5 ∨ i = 6 ∨ i = 7 ∨ i = 8 ∨ i = 9 ∨ i = 10 ∨ i = 11 ∨ i = 12 ∨ i = 13 ∨ i = 14 ∨ i = 15 := by omega
  have ej : j = 0 ∨ j = 1 ∨ j = 2 ∨ j = 3 ∨ j = 4 ∨ j = 5 ∨ j = 6 ∨ j = 7 ∨ j = 8 ∨ j = 9 ∨ j = 10 ∨ j = 11 ∨ j = 12 ∨ j = 13 ∨ j = 14 ∨ j = 15 := by omega
  clear hi hj
  rcases ei with rfl | rfl | rfl | rfl | rfl | rfl | rfl | rfl | rfl | rfl | rfl | rfl | rfl | rfl | rfl | rfl <;>
  rcases ej with rfl | rfl | rfl | rfl | rfl | rfl | rfl | rfl | rfl | rfl | rfl | rfl | rfl | rfl | rfl | rfl <;> (show @Eq (Option (List GV × List Owe)) _ _; kernel_rfl)
theorem crLoop (t : List UInt8) (ht : t.length < 1099511627776) (g2 g3 g4 : GV) : ∀ (d k x : Nat), t.length - k = d → k ≤ t.length → x < 4294967296 →
    TT.lim 12 (crArg x t g2 g3 g4 t.length k) = some [.i .i64 0, .i .u32 (crcS x (t.drop k) : Nat)]
  | 0, k, x, hd, hk, hx => by
    have e : k = t.length := by omega
    subst e
    rw [List.drop_length]
    refine PProg.body (X := []) (ts := [(23, .b false)]) (lg := [.node (.bin .lss 0 1) [.i .i64 t.length, .i .i64 t.length] (.b false)]) (by kernel_rfl) ⟨?_, trivial⟩
    simp [Owe.ok, Nd.den, binG, intG]
  | d + 1, k, x, hd, hk, hx => by
    have hlt : k < t.length := by omega
    have hb := t[k].toNat_lt
    have hy := xor32_lt hx hb
    have hz := crNib_lt hy
    have ih := crLoop t ht g2 g3 g4 d (k + 1) (crStep x t[k].toNat) (by omega) (by omega) (crStep_lt hx hb)
    rw [List.drop_eq_getElem_cons hlt, crcS]
    have hi := Nat.mod_lt (x ^^^ t[k].toNat) (show 16 > 0 by omega)
    have hj := Nat.mod_lt (crNib (x ^^^ t[k].toNat)) (show 16 > 0 by omega)
    refine PProg.body (crBody ((x ^^^ t[k].toNat) % 16) (crNib (x ^^^ t[k].toNat) % 16) hi hj t[k] x (x ^^^ t[k].toNat : Nat) ((x ^^^ t[k].toNat) >>> 4 : Nat) (crNib (x ^^^ t[k].toNat) : Nat) ((crNib (x ^^^ t[k].toNat)) >>> 4 : Nat) (crStep x t[k].toNat : Nat) k ((k + 1 : Nat) : Int) t.length t g2 g3 g4 _)
      ⟨?_, ?_, ?_, ?_, ?_, ?_, ?_, ?_, ?_, ?_, ?_, ih, trivial⟩
    · simp [Owe.ok, Nd.den, binG, intG]; omega
    · simp [Owe.ok, Nd.den, hlt]
    · simp [Owe.ok, Nd.den, IntKind.wrap, IntKind.bits, IntKind.signed]; omega
    · exact xor_node (k := .u32) (a := x) (b := t[k].toNat) rfl hx (by show t[k].toNat < 4294967296; omega)
    · exact shr4_node
    · exact and15_node hy
    · exact xor_node (k := .u32) (a := (x ^^^ t[k].toNat) >>> 4) (b := crTab[(x ^^^ t[k].toNat) % 16]?.getD 0) rfl (by show (x ^^^ t[k].toNat) >>> 4 < 4294967296; have := crShr (k := 4) (m := 28) hy; omega) (crTab_lt _ hi)
    · exact shr4_node
    · exact and15_node hz
    · exact xor_node (k := .u32) (a := crNib (x ^^^ t[k].toNat) >>> 4) (b := crTab[crNib (x ^^^ t[k].toNat) % 16]?.getD 0) rfl (by show crNib (x ^^^ t[k].toNat) >>> 4 < 4294967296; have := crShr (k := 4) (m := 28) hz; omega) (crTab_lt _ hj)
    · exact add1_node (by omega)
/-- What crc.Sum answers. -/
def crcN (p : List UInt8) : Nat := 4294967295 - crcS 4294967295 p
def crOv (k : Nat) (X : List GV) : Nat → List GV → Option (List GV) := fun k' _ => if Nat.beq k k' = true then some X else none
theorem not_node {a : Nat} (h : a < 4294967296) : unG .xor (.i .u32 a) = some (.i .u32 ((4294967295 - a : Nat) : Int)) := by
  have h1 : unG .xor (.i .u32 a) = binG .xor (.i .u32 ((4294967295 : Nat) : Int)) (.i .u32 a) := rfl
  rw [h1, xor_node rfl (by decide) h]
  congr 3
  have h2 : (4294967295 : Nat) = 2 ^ 32 - 1 := by decide
  apply Nat.eq_of_testBit_eq
  intro i
  rw [Nat.testBit_xor, h2, Nat.testBit_two_pow_sub_one, show 2 ^ 32 - 1 - a = 2 ^ 32 - (a + 1) by omega, Nat.testBit_two_pow_sub_succ (by omega : a < 2 ^ 32)]
  by_cases hi : i < 32
  · simp [hi]
  · have : a.testBit i = false := Nat.testBit_lt_two_pow (Nat.lt_of_lt_of_le (show a < 2 ^ 32 from h) (Nat.pow_le_pow_right (show 2 > 0 from Nat.two_pos) (show 32 ≤ i by omega)))
    simp [hi, this]
theorem sum_tree (p : List UInt8) (hp : p.length < 1099511627776) : TT.lim 8 [.l [.s p]] = some [.i .u32 (crcN p : Nat)] := by
  refine PProg.runs (n := 9) (ov := crOv 12 [.i .i64 0, .i .u32 (crcS 4294967295 p : Nat)]) (ts := fun k => if Nat.beq k 9 = true then [(24, .i .u32 (crcN p : Nat))] else [])
    (lg := [.call 12 (crArg 4294967295 p (.l [.s p]) (.i .i64 1) (.i .i64 0) p.length 0) [.i .i64 0, .i .u32 (crcS 4294967295 p : Nat)], .node (.un .xor 0) [.i .u32 (crcS 4294967295 p : Nat)] (.i .u32 (crcN p : Nat))]) (by kernel_rfl) ⟨?_, ?_, trivial⟩
  · have := crLoop p hp (.l [.s p]) (.i .i64 1) (.i .i64 0) p.length 0 4294967295 (by omega) (by omega) (by decide)
    rw [List.drop_zero] at this
    exact this
  · exact not_node (crcS_lt p _ (by decide))
theorem check_tree (p : List UInt8) (hp : p.length < 1099511627776) (s0 s1 s2 s3 : UInt8) (N : Nat) (hN : (N : Int) ≠ (crcN p : Nat))
    (hr : TT.runL (crOv 8 [.i .u32 (crcN p : Nat)]) (fun k => if Nat.beq k 135 = true then [(28, .b false)] else []) 3 135 [.s p, .s [s0, s1, s2, s3]] = some ([.b false], [.call 8 [.l [.s p]] [.i .u32 (crcN p : Nat)], .node (.bin .eql 0 1) [.i .u32 N, .i .u32 (crcN p : Nat)] (.b false)])) :
    TT.lim 135 [.s p, .s [s0, s1, s2, s3]] = some [.b false] := by
  refine PProg.runs hr ⟨sum_tree p hp, ?_, trivial⟩
  simp only [Owe.ok, Nd.den, binG, intG, List.getElem?_cons_zero, List.getElem?_cons_succ, if_true]
  rw [show ((N : Int) == ((crcN p : Nat) : Int)) = false from beq_eq_false_iff_ne.2 hN]
/-- What the first end says, and its sum. -/
def helP (a0 a1 : UInt8) : List UInt8 := [1, 4, a0, 8, a1, 13, 5, 102, 105, 114, 115, 116]
def fldS (a0 a1 : Int) : GV := .l [.g [.i .u64 1, .i .i64 0, .i .u64 a0, .s [], .l []], .g [.i .u64 2, .i .i64 0, .i .u64 a1, .s [], .l []], .g [.i .u64 3, .i .i64 1, .i .u64 0, .s [102, 105, 114, 115, 116], .l []]]
def argS (a0 a1 b0 b1 t y : Int) : List GV := [.g [.i .u64 a0, .i .u64 a1], .g [.i .u64 b0, .i .u64 b1], .i .u16 t, .i .u8 y]
def ovS : Nat → List GV → Option (List GV) := fun k gs => if Nat.beq k 87 = true then some gs else if Nat.beq k 135 = true then some [.b false] else none
def tsS (r : Nat) (c : UInt8) (T : List UInt8) : Nat → List (Nat × GV) := fun k => if Nat.beq k 2 = true then [(9, .b false), (14, .i .u16 r), (33, .b false), (34, .b false), (35, .b false), (36, .b false)] else if Nat.beq k 107 = true then [(30, .i .u8 c.toNat), (32, .s T)] else []
def lgS (a0 a1 b0 b1 t y : Int) (r : Nat) (n c : UInt8) (T P Q : List UInt8) : List Owe := [.node (.bin .eql 0 1) [.i .u8 y, .i .u8 0] (.b false), .node (.bin .rem 0 1) [.i .u16 t, .i .u16 8] (.i .u16 r), .node (.bin .lss 0 1) [.i .u64 b0, .i .u64 1] (.b false), .node (.bin .lss 0 1) [.i .u64 b1, .i .u64 b0] (.b false), .node (.bin .gtr 0 1) [.i .u64 b1, .i .u64 255] (.b false), .node (.bin .gtr 0 1) [.i .u64 b1, .i .u64 3] (.b false),
  .call 87 [fldS a0 a1] [fldS a0 a1], .node (.bin .xor 0 1) [.i .u8 n.toNat, .i .u8 y] (.i .u8 c.toNat), .node (.str 0) [.l (byteGs T)] (.s T), .call 135 [.s P, .s Q] [.b false]]
theorem xor_ne {n y : Nat} (h : y ≠ 0) : n ^^^ y ≠ n := by
  intro e
  apply h
  have := congrArg (n ^^^ ·) e
  simpa only [← Nat.xor_assoc, Nat.xor_self, Nat.zero_xor] using this
theorem fld_clone (a0 a1 : Int) : TT.lim 87 [fldS a0 a1] = some [fldS a0 a1] :=
  fclone_fl [.mk 1 0 a0 [] [], .mk 2 0 a1 [] [], .mk 3 1 0 [102, 105, 114, 115, 116] []] (by simp [szL, szF])
theorem spoils_of (a0 a1 : UInt8) (A0 A1 b0 b1 t y : Int) (r : Nat) (n s0 s1 s2 s3 : UInt8) (N : Nat) (T : UInt8 → List UInt8)
    (hrun : ∀ c, TT.runL ovS (tsS r c (T c)) 60 2 (argS A0 A1 b0 b1 t y) = some ([.b true], lgS A0 A1 b0 b1 t y r n c (T c) ((helP a0 a1).set r c) [s0, s1, s2, s3]))
    (hT : ∀ c, (T c).length = 19) (hy : y ≠ 0) (hy0 : 0 ≤ y) (hy1 : y < 256) (ht : t.tmod 8 = r) (hb1 : 1 ≤ b0) (hb2 : b0 ≤ b1) (hb3 : b1 ≤ 3) (hr : r < 12) (hn : (helP a0 a1)[r]? = some n) (hN : crcN (helP a0 a1) = N)
    (hchk : ∀ (p : List UInt8) (v : Int), TT.runL (crOv 8 [.i .u32 v]) (fun k => if Nat.beq k 135 = true then [(28, .b false)] else []) 3 135 [.s p, .s [s0, s1, s2, s3]] = some ([.b false], [.call 8 [.l [.s p]] [.i .u32 v], .node (.bin .eql 0 1) [.i .u32 N, .i .u32 v] (.b false)])) :
    TT.lim 2 (argS A0 A1 b0 b1 t y) = some [.b true] := by
  have hlt : n.toNat ^^^ y.toNat < 256 := Nat.xor_lt_two_pow (n := 8) n.toNat_lt (by show y.toNat < 256; omega)
  have hc : (UInt8.ofNat (n.toNat ^^^ y.toNat)).toNat = n.toNat ^^^ y.toNat := by
    rw [UInt8.toNat_ofNat']
    exact Nat.mod_eq_of_lt hlt
  generalize UInt8.ofNat (n.toNat ^^^ y.toNat) = c at hc
  have hcn : c ≠ n := fun e => xor_ne (n := n.toNat) (y := y.toNat) (by omega) (by rw [← hc, e])
  have hl : (helP a0 a1).length = 12 := rfl
  refine PProg.runs (hrun c) ⟨?_, ?_, ?_, ?_, ?_, ?_, fld_clone A0 A1, ?_, ?_, ?_, trivial⟩
  · simp [Owe.ok, Nd.den, binG, intG, hy]
  · simp [Owe.ok, Nd.den, binG, intG, ht]
  · simp [Owe.ok, Nd.den, binG, intG]; omega
  · simp [Owe.ok, Nd.den, binG, intG]; omega
  · simp [Owe.ok, Nd.den, binG, intG]; omega
  · simp [Owe.ok, Nd.den, binG, intG]; omega
  · have h := xor_node (k := .u8) (a := n.toNat) (b := y.toNat) rfl n.toNat_lt (by show y.toNat < 256; omega)
    rw [Int.toNat_of_nonneg hy0, ← hc] at h
    exact h
  · simp only [Owe.ok, Nd.den, List.getElem?_cons_zero, bytesG_byteGs, byteGs_length, hT]
    rfl
  · refine check_tree _ (by rw [List.length_set, hl]; decide) s0 s1 s2 s3 N ?_ (hchk _ _)
    have hl2 : r < (helP a0 a1).length := by rw [hl]; exact hr
    have e : (helP a0 a1)[r] = n := by
      rw [List.getElem?_eq_getElem hl2] at hn
      exact Option.some.inj hn
    have h1 := crcS_turn (helP a0 a1) r c 4294967295 (by decide) hl2 (by rw [e]; exact hcn)
    have h2 := crcS_lt (helP a0 a1) 4294967295 (by decide)
    have h3 := crcS_lt ((helP a0 a1).set r c) 4294967295 (by decide)
    unfold crcN at hN ⊢
    omega
theorem pair_u64 {cs : List GV} (h : GTy.hasL [.int .u64, .int .u64] cs) : ∃ a b, cs = [.i .u64 a, .i .u64 b] := by
  simp only [GTy.hasL] at h
  obtain ⟨x, r, rfl, h1, h⟩ := h
  obtain ⟨y, r, rfl, h2, rfl⟩ := h
  obtain ⟨a, rfl, _⟩ := has_u64 h1
  obtain ⟨b, rfl, _⟩ := has_u64 h2
  exact ⟨a, b, rfl⟩
end J
end Go.Proofs.YtilkjidelblkfaaGreatDoor
