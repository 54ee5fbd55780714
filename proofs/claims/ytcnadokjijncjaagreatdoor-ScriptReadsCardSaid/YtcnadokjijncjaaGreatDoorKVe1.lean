/- What the trees compute: plain laws. -/
import Derived.Test.YtcnadokjijncjaaGreatDoorKVT
import Derived.Test.YtcnadokjijncjaaGreatDoorAbsPl
import Derived.Test.YtcnadokjijncjaaGreatDoorAbsScr
namespace Go.Proofs.YtcnadokjijncjaaGreatDoor
open Go Go.Abs
set_option linter.unusedSimpArgs false
set_option linter.unusedVariables false
set_option maxRecDepth 100000
namespace V
theorem bytesLess_lt : ∀ a b : List UInt8, Op.bytesLess a b = decide (a < b)
  | _, [] => by simp [Op.bytesLess]
  | [], _ :: _ => by simp [Op.bytesLess]
  | a :: x, b :: y => by
    rw [Op.bytesLess, bytesLess_lt x y, Bool.eq_iff_iff]
    simp [List.cons_lt_cons_iff]
/-- An entry: key and value. A row: its entries and its number. -/
abbrev Ent := List UInt8 × List UInt8
abbrev Row := List Ent × Int
def ent (x : Ent) : GV := .g [.s x.1, .s x.2]
def row (r : Row) : GV := .g [.l (r.1.map ent), .i .u64 r.2]
@[simp] theorem ent_cells (x : Ent) : (ent x).cells = [.s x.1, .s x.2] := rfl
@[simp] theorem row_cells (r : Row) : (row r).cells = [.l (r.1.map ent), .i .u64 r.2] := rfl
@[simp] theorem ent_scalar (x : Ent) : (ent x).scalar = false := rfl
@[simp] theorem row_scalar (r : Row) : (row r).scalar = false := rfl
/-- Texts and lists of no more than any machine bears. -/
def Ents (d : List Ent) : Prop := d.length ≤ 140737488351232 ∧ ∀ x ∈ d, x.1.length ≤ 140737488351232 ∧ x.2.length ≤ 140737488351232
def Rows (l : List Row) : Prop := l.length ≤ 140737488351232 ∧ ∀ r ∈ l, Ents r.1 ∧ 0 ≤ r.2 ∧ r.2 < 18446744073709551616
def fewE (x : Ent) : Bool := decide (x.1.length + x.2.length ≤ 600)
def few12 (d : List Ent) : Bool := d.all fewE && decide (d.length ≤ 40)
def vput (n : Nat) : List UInt8 := if n < 128 then [UInt8.ofNat n] else UInt8.ofNat (n % 128 + 128) :: vput (n / 128)
termination_by n
decreasing_by omega
@[simp] theorem byteGs_length (a : List UInt8) : (byteGs a).length = a.length := by simp [byteGs]
def entPut (x : Ent) : List UInt8 := vput x.1.length ++ x.1 ++ vput x.2.length ++ x.2
def keyF (d : List Ent) : List UInt8 := vput d.length ++ d.flatMap entPut
def utfChk (s : List UInt8) (lo hi : Int) : Int := if (s.length : Int) < lo then 13 else if hi < (s.length : Int) then 13 else if Lib.validD s = true then 0 else 11
def entChk (x : Ent) : Int := if utfChk x.1 1 64 ≠ 0 then utfChk x.1 1 64 else utfChk x.2 0 256
def chkL : Option (List UInt8) → List Ent → Int
  | _, [] => 0
  | p, x :: xs => if entChk x ≠ 0 then entChk x else match p with
    | none => chkL (some x.1) xs
    | some k => if x.1 = k then 14 else if Op.bytesLess x.1 k = true then 7 else chkL (some x.1) xs
def descrChk (d : List Ent) : Int := if d.length = 0 then 12 else if 16 < d.length then 13 else chkL none d
def rowChk (r : Row) : Int := if descrChk r.1 ≠ 0 then descrChk r.1 else if r.2 = 0 then 18 else 0
abbrev K (r : Row) : List UInt8 := keyF r.1
/-- How many rows at the head have lesser keys. -/
def adv (k : List UInt8) : List Row → Nat
  | [] => 0
  | r :: rs => if Op.bytesLess (K r) k = true then adv k rs + 1 else 0
def atL : List Row → List Row → Bool
  | _, [] => true
  | t, r :: rs => match t.drop (adv (K r) t) with
    | [] => false
    | s :: t' => decide (K s = K r) && decide (r.2 ≤ s.2) && atL (s :: t') rs
theorem bl_iff (a b : List UInt8) : Op.bytesLess a b = true ↔ a < b := by rw [bytesLess_lt]; simp
/-- Rows whose keys rise. -/
def Rise (l : List Row) : Prop := l.Pairwise fun a b => K a < K b
def chkR : Option (List UInt8) → List Row → Int
  | _, [] => 0
  | p, r :: rs => if rowChk r ≠ 0 then rowChk r else match p with
    | none => chkR (some (K r)) rs
    | some k => if K r = k then 14 else if Op.bytesLess (K r) k = true then 7 else chkR (some (K r)) rs
def checkT (t : List Row) : Int := if 256 < t.length then 13 else chkR none t
theorem chkR_rise : ∀ {t : List Row} (p : Option (List UInt8)), Rise t → (∀ r ∈ t, rowChk r = 0) → (∀ k, p = some k → ∀ r ∈ t, k < K r) → chkR p t = 0
  | [], p, _, _, _ => by cases p <;> rfl
  | r :: t, p, ht, hc, hp => by
    have ht' := List.pairwise_cons.1 ht
    have ih := chkR_rise (t := t) (some (K r)) ht'.2 (fun x hx => hc x (by simp [hx])) (fun k hk x hx => by cases hk; exact ht'.1 x hx)
    unfold chkR
    rw [if_neg (by simp [hc r (by simp)])]
    cases p with
    | none => exact ih
    | some k =>
      have hk := hp k rfl r (by simp)
      have h1 : ¬ K r = k := fun e => by rw [e] at hk; exact List.lt_irrefl _ hk
      have h2 : ¬ Op.bytesLess (K r) k = true := fun e => List.lt_irrefl _ (List.lt_trans hk ((bl_iff _ _).1 e))
      simp only
      rw [if_neg h1, if_neg h2]
      exact ih
theorem Rows.perm {l m : List Row} (h : l.Perm m) (hl : Rows l) : Rows m := ⟨by rw [← h.length_eq]; exact hl.1, fun r hr => hl.2 r (h.mem_iff.2 hr)⟩
def Pos (t : List Row) : Prop := ∀ r ∈ t, 0 < r.2 ∧ r.2 < 18446744073709551616
def mergeR : List Row → List Row → Option (List Row)
  | [], b => some b
  | x :: a, [] => some (x :: a)
  | x :: a, y :: b =>
    if K x < K y then (mergeR a (y :: b)).map (x :: ·)
    else if K y < K x then (mergeR (x :: a) b).map (y :: ·)
    else if x.2 + y.2 < 18446744073709551616 then (mergeR a b).map ((x.1, x.2 + y.2) :: ·) else none
termination_by a b => a.length + b.length
def Few (t : List Row) : Prop := ∀ r ∈ t, few12 r.1 = true
def Ok (t : List Row) : Prop := t.length ≤ 256 ∧ Rise t ∧ ∀ r ∈ t, rowChk r = 0
theorem chkR_inv : ∀ {t : List Row} (p : Option (List UInt8)), chkR p t = 0 → Rise t ∧ (∀ r ∈ t, rowChk r = 0) ∧ ∀ k, p = some k → ∀ r ∈ t, k < K r
  | [], p, _ => ⟨List.Pairwise.nil, by simp, by simp⟩
  | r :: t, p, h => by
    unfold chkR at h
    by_cases h1 : rowChk r = 0
    rotate_left
    · rw [if_pos h1] at h; exact absurd h h1
    rw [if_neg (by simp [h1])] at h
    have main : ∀ (h : chkR (some (K r)) t = 0), Rise (r :: t) ∧ ∀ x ∈ r :: t, rowChk x = 0 := by
      intro h
      obtain ⟨i1, i2, i3⟩ := chkR_inv (some (K r)) h
      refine ⟨List.Pairwise.cons (i3 _ rfl) i1, fun x hx => ?_⟩
      rcases List.mem_cons.1 hx with rfl | hx
      · exact h1
      · exact i2 x hx
    cases p with
    | none => exact ⟨(main h).1, (main h).2, by simp⟩
    | some k =>
      simp only at h
      split at h
      · cases h
      next h2 =>
      split at h
      · cases h
      next h3 =>
      refine ⟨(main h).1, (main h).2, ?_⟩
      rintro _ ⟨⟩ x hx
      have hk : k < K r := by
        rcases List.le_iff_lt_or_eq.1 (List.not_lt.1 fun e => h3 ((bl_iff _ _).2 e)) with e | e
        · exact e
        · exact absurd e.symm h2
      rcases List.mem_cons.1 hx with rfl | hx
      · exact hk
      · exact List.lt_trans hk ((List.pairwise_cons.1 (main h).1).1 x hx)
theorem checkT_iff (t : List Row) : checkT t = 0 ↔ Ok t := by
  unfold checkT Ok
  constructor
  · intro h
    split at h
    · cases h
    · obtain ⟨h1, h2, _⟩ := chkR_inv none h
      exact ⟨by omega, h1, h2⟩
  · rintro ⟨h1, h2, h3⟩
    rw [if_neg (by omega)]
    exact chkR_rise none h2 h3 (by simp)
theorem rowChk_iff (r : Row) : rowChk r = 0 ↔ descrChk r.1 = 0 ∧ r.2 ≠ 0 := by
  unfold rowChk
  by_cases h : descrChk r.1 = 0
  · simp [h]
  · simp [h]
structure Tb (t : List Row) : Prop where
  ok : Ok t
  rows : Rows t
  few : Few t
theorem Tb.pos {t : List Row} (h : Tb t) : Pos t := fun r hr => by
  have h1 := ((rowChk_iff r).1 (h.ok.2.2 r hr)).2
  have h2 := (h.rows.2 r hr).2
  omega
theorem Tb.rise {t : List Row} (h : Tb t) : Rise t := h.ok.2.1
def tog (a b : List Row) : List Row × Int := match mergeR a b with
  | none => ([], 3)
  | some m => if 256 < m.length then ([], 13) else (m, 0)
structure GoodT (t : List Row) : Prop where
  len : t.length ≤ 300
  few : Few t
  rows : Rows t
theorem Tb.good {t : List Row} (h : Tb t) : GoodT t := ⟨Nat.le_trans h.ok.1 (by decide), h.few, h.rows⟩
abbrev Dl := Int × Int × List Row
def chkD (d : Dl) : Int := if d.2.1 ≤ d.1 then 20 else checkT d.2.2
theorem GoodT.tb {t : List Row} (h : GoodT t) (ho : Ok t) : Tb t := ⟨ho, h.rows, h.few⟩
abbrev Sn := Int × List Row
def sn (s : Sn) : GV := .g [.i .u64 s.1, .l (s.2.map row)]
@[simp] theorem sn_cells (s : Sn) : (sn s).cells = [.i .u64 s.1, .l (s.2.map row)] := rfl
@[simp] theorem sn_scalar (s : Sn) : (sn s).scalar = false := rfl
def zS : Sn := (0, [])
def applyS (s : Sn) (d : Dl) : Sn × Int :=
  if checkT s.2 ≠ 0 then (zS, checkT s.2) else if chkD d ≠ 0 then (zS, chkD d) else if s.1 ≠ d.1 then (zS, 19)
  else if (tog s.2 d.2.2).2 ≠ 0 then (zS, (tog s.2 d.2.2).2) else ((d.2.1, (tog s.2 d.2.2).1), 0)
structure TOk (t : List Row) : Prop where
  ok : Ok t
  few : Few t
  rows : Rows t
theorem TOk.tb {t : List Row} (h : TOk t) : checkT t = 0 := (checkT_iff t).2 h.ok
theorem TOk.len {t : List Row} (h : TOk t) : t.length ≤ 256 := h.ok.1
theorem TOk.good {t : List Row} (h : TOk t) : GoodT t := ⟨Nat.le_trans h.len (by decide), h.few, h.rows⟩
abbrev It := Int × Int × List UInt8
def ltI (a b : It) : Bool := if a.1 = b.1 then decide (a.2.1 < b.2.1) else decide (a.1 < b.1)
def leI (a b : It) : Prop := ltI b a = false
def dI : It := (0, 0, [])
abbrev at_ (h : List It) (i : Nat) : It := h.getD i dI
def par (k : Nat) : Nat := (k - 1) / 2
def Heap (h : List It) (n : Nat) : Prop := ∀ k, 0 < k → k < n → leI (at_ h (par k)) (at_ h k)
structure Sim (h L : List It) (n : Int) : Prop where
  heap : Heap h h.length
  perm : L.Perm h
  srt : L.Pairwise (fun x y => ltI x y = true)
  low : ∀ x ∈ L, x.2.1 < n
theorem Sim.len {h L : List It} {n : Int} (s : Sim h L n) : h.length = L.length := s.perm.length_eq.symm
/-- What may be kept. -/
structure Kp (k : List Sn) : Prop where
  len : k.length ≤ 8
  tb : ∀ s ∈ k, Tb s.2
  pos : ∀ s ∈ k, 0 < s.1 ∧ s.1 < 18446744073709551616
  rise : k.Pairwise fun a b => a.1 < b.1 ∧ atL b.2 a.2 = true
theorem Kp.nil : Kp [] := ⟨by decide, by simp, by simp, List.Pairwise.nil⟩
theorem Kp.drop {k : List Sn} (hk : Kp k) (i : Nat) : Kp (k.drop i) :=
  ⟨by have := hk.len; rw [List.length_drop]; omega, fun s hs => hk.tb s (List.mem_of_mem_drop hs), fun s hs => hk.pos s (List.mem_of_mem_drop hs), hk.rise.sublist (List.drop_sublist i k)⟩
/-- What was published by its epoch. -/
def MapOk (xs : List GV) (k : List Sn) : Prop := ∀ s ∈ k, assocG (.i .u64 s.1) xs = some (sn s)
structure Lead (xs : List GV) (k : List Sn) (b : Int) : Prop where
  kp : Kp k
  map : MapOk xs k
  base : b = 0 ∨ ∃ s ∈ k, s.1 = b
abbrev An := Int × Int × Int × Int
/-- A message of a sender. -/
abbrev Tm := Int × Int × Int × List Row
def GoodM (xs : List GV) (m : Tm) : Prop :=
  (m.1 = 5 ∧ Tb m.2.2.2 ∧ (0 < m.2.1 ∧ m.2.1 < 18446744073709551616) ∧ m.2.2.1 = 0 ∧ assocG (.i .u64 m.2.1) xs = some (sn (m.2.1, m.2.2.2))) ∨
  (m.1 = 6 ∧ Tb m.2.2.2 ∧ (0 < m.2.2.1 ∧ m.2.2.1 < m.2.1 ∧ m.2.1 < 18446744073709551616) ∧ ∃ s l : Sn, assocG (.i .u64 m.2.2.1) xs = some (sn s) ∧ assocG (.i .u64 m.2.1) xs = some (sn l) ∧ l.1 = m.2.1 ∧ s.1 = m.2.2.1 ∧ Tb l.2 ∧ applyS s (m.2.2.1, m.2.1, m.2.2.2) = (l, 0))
/-- A sender and a receiver, and what was told between them. -/
structure Foll (xs : List GV) (told : List Tm) (back : List An) (k : List Sn) (b : Int) (sm : Bool) (h : Sn) : Prop where
  lead : Lead xs k b
  keys : ∀ e g, assocG (.i .u64 e) xs = some g → ∃ l, k.getLast? = some l ∧ e ≤ l.1
  told : ∀ m ∈ told, GoodM xs m
  back : ∀ a ∈ back, a.1 = 7 → sm = true ∧ a.2.1 ≤ h.1
  has : (sm = true ∧ assocG (.i .u64 h.1) xs = some (sn h) ∧ Tb h.2) ∨ (sm = false ∧ h = zS)
  base : b ≤ 0 ∨ (sm = true ∧ b ≤ h.1)
  zero : assocG (.i .u64 0) xs = none
theorem Foll.getD {xs : List GV} {told : List Tm} {back : List An} {k : List Sn} {b : Int} {sm : Bool} {h : Sn} (f : Foll xs told back k b sm h) : (assocG (.i .u64 h.1) xs).getD (.g [.i .u64 0, .l []]) = sn h := by
  rcases f.has with ⟨-, q, -⟩ | ⟨-, q⟩
  · rw [q]; rfl
  · rw [q]
    show (assocG (.i .u64 0) xs).getD _ = _
    rw [f.zero]; rfl
theorem Foll.no {xs : List GV} {told : List Tm} {back : List An} {k : List Sn} {b : Int} {sm : Bool} {h : Sn} (f : Foll xs told back k b sm h) (e : sm = false) : h = zS := by
  rcases f.has with ⟨q, -⟩ | ⟨-, q⟩
  · rw [q] at e; cases e
  · exact q
theorem tsplit (x : List UInt8) (h : x.length < 4294967281) : TT.lim 2 [.s x, .s [10]] = some [.l ((cutF 10 x).map .s)] := prim_lim (f := splitP) rfl (by simp only [splitP]; rw [if_pos h])
theorem tfields (x : List UInt8) (h : x.length ≤ 4294967296) : TT.lim 4 [.s x] = some [.l ((wordsF x).map .s)] := prim_lim (f := fieldsP) rfl (by simp only [fieldsP]; rw [if_pos h])
theorem tnum (w : List UInt8) (h : w.length ≤ 281474976710656) : TT.lim 8 [.s w] = some [.i .u64 ((numF w).1 : Nat), .i .i64 (numF w).2] := prim_lim (f := numberP) rfl (by simp only [numberP]; rw [if_pos h])
theorem tfmt (n : Int) (h0 : 0 ≤ n) (h1 : n < 18446744073709551616) : TT.lim 41 [.i .u64 n, .i .i64 10] = some [.s (Lib.decDigits n.toNat)] := prim_lim (f := fmtUP) rfl (by simp only [fmtUP]; rw [if_pos ⟨⟨h0, h1⟩, trivial⟩])
theorem titoa (n : Int) (h0 : -9223372036854775808 ≤ n) (h1 : n ≤ 9223372036854775807) : TT.lim 42 [.i .i64 n] = some [.s (Lib.itoa n)] := prim_lim (f := itoaP) rfl (by simp only [itoaP]; rw [if_pos ⟨h0, h1⟩])
theorem elemS1 (n : List UInt8) : (GV.s n).elemOk 1 = true := rfl
/-- The document's cut, a round. -/
theorem rcut0 (s : List UInt8) (c : UInt8) (hs : s.length ≤ 70000) : ∀ (m from_ i : Nat) (acc : List (List UInt8)), i + m = s.length → from_ ≤ i → acc.length ≤ i → c ∉ (s.take i).drop from_ →
    ∃ (l : List (List UInt8)) (f : Nat), TT.lim 19 [.s s, .i .u8 c.toNat, .l (acc.map .s), .i .i64 from_, .i .i64 i] = some [.i .i64 0, .l (l.map .s), .i .i64 f] ∧ f ≤ s.length ∧ l.length ≤ s.length ∧ l ++ [s.drop f] = acc ++ cutF c (s.drop from_)
  | 0, from_, i, acc, hi, hf, ha, hc => by
    have h : ¬ ((i : Int) < s.length) := by omega
    refine ⟨acc, from_, ?_, by omega, by omega, ?_⟩
    · generalize acc.map GV.s = A at *
      refine tree_lim rfl rfl ?_
      simp [h]
    · have e : s.take i = s := List.take_of_length_le (by omega)
      rw [e] at hc
      have := cutF_app (l := []) hc
      rw [List.append_nil] at this
      rw [this]
      simp [cutF]
  | m + 1, from_, i, acc, hi, hf, ha, hc => by
    have hlt : i < s.length := by omega
    have h : ((i : Int) < s.length) := by omega
    have hw := wrap64 (n := (i : Int) + 1) (by omega) (by omega)
    have hcast : ((i + 1 : Nat) : Int) = (i : Int) + 1 := by omega
    have hget : s[i]? = some s[i] := List.getElem?_eq_getElem hlt
    have hd : s.drop from_ = (s.take i).drop from_ ++ s[i] :: s.drop (i + 1) := by
      rw [← List.drop_eq_getElem_cons hlt, ← List.drop_append_of_le_length (by rw [List.length_take]; omega), List.take_append_drop]
    by_cases e : s[i] = c
    · have hla : (acc.map GV.s).length = acc.length := List.length_map _
      have c1 : 2 * ((acc.map GV.s).length + 1) * 16 ≤ 281474976710656 ∧ (acc.map GV.s).length + 1 ≤ 281474976710656 := by omega
      obtain ⟨l, f, ih, i1, i2, i3⟩ := rcut0 s c hs m (i + 1) (i + 1) (acc ++ [(s.take i).drop from_]) (by omega) (by omega) (by rw [List.length_append, List.length_singleton]; omega) (by rw [List.drop_eq_nil_of_le (by rw [List.length_take]; omega)]; simp)
      refine ⟨l, f, ?_, i1, i2, ?_⟩
      · rw [hcast, List.map_append, List.map_cons, List.map_nil] at ih
        have e' : ((s[i].toNat : Int) = c.toNat) = True := eq_true (by rw [e])
        clear hc hd i3 e
        generalize acc.map GV.s = A at *
        refine tree_lim rfl rfl ?_
        have c3 := Nat.le_of_lt hlt
        simp [h, hw, hget, e', c1, hf, c3, elemS1, ih]
      · rw [i3, hd, e]
        rw [cutF_app hc]
        simp [cutF]
    · obtain ⟨l, f, ih, i1, i2, i3⟩ := rcut0 s c hs m from_ (i + 1) acc (by omega) (by omega) (by omega) (by
        rw [List.take_add_one, hget, List.drop_append_of_le_length (by rw [List.length_take]; omega)]
        simp only [Option.toList_some, List.mem_append, List.mem_singleton, not_or]
        exact ⟨hc, fun h => e h.symm⟩)
      refine ⟨l, f, ?_, i1, i2, i3⟩
      rw [hcast] at ih
      have e' : ((s[i].toNat : Int) = c.toNat) = False := eq_false (by
        intro h; exact e (UInt8.toNat_inj.1 (by omega)))
      clear hc hd i3 e
      generalize acc.map GV.s = A at *
      refine tree_lim rfl rfl ?_
      simp [h, hw, hget, e', ih]
theorem rcut_ok (s : List UInt8) (c : UInt8) (hs : s.length ≤ 70000) : TT.lim 18 [.s s, .i .u8 c.toNat] = some [.l ((cutF c s).map .s)] := by
  obtain ⟨l, f, h0, h1, h2, h3⟩ := rcut0 s c hs s.length 0 0 [] (by omega) (by omega) (by simp) (by simp)
  rw [List.nil_append, List.drop_zero] at h3
  rw [← h3, List.map_append, List.map_cons, List.map_nil]
  rw [List.map_nil] at h0
  simp only [Int.natCast_zero] at h0
  have hla : (l.map GV.s).length = l.length := List.length_map _
  have c1 : 2 * ((l.map GV.s).length + 1) * 16 ≤ 281474976710656 ∧ (l.map GV.s).length + 1 ≤ 281474976710656 := by omega
  have e : s.take s.length = s := List.take_length
  generalize l.map GV.s = A at *
  refine fn_lim rfl rfl ?_ rfl
  simp [h0, c1, h1, elemS1, e]
/-- The words of a line: those of a remark are none. -/
def lineF (l : List UInt8) : List (List UInt8) := match wordsF l with | [] => [] | w :: r => if w[0]? = some 35 then [] else w :: r
theorem rw0 (ls : List (List UInt8)) (hl : ls.length ≤ 70001) : ∀ (m i : Nat) (acc : List (List UInt8)), i + m = ls.length → acc.length ≤ i →
    TT.lim 22 [.l (acc.map .s), .l (ls.map .s), .i .i64 ls.length, .i .i64 i] = some [.i .i64 0, .l ((acc ++ (ls.drop i).filter fun w => !w.isEmpty).map .s)]
  | 0, i, acc, hi, ha => by
    have h : ¬ ((i : Int) < ls.length) := by omega
    have e : ls.drop i = [] := List.drop_eq_nil_of_le (by omega)
    rw [e]
    simp only [List.filter_nil, List.append_nil]
    generalize acc.map GV.s = A at *
    refine tree_lim rfl rfl ?_
    simp [h]
  | m + 1, i, acc, hi, ha => by
    have hlt : i < ls.length := by omega
    have h : ((i : Int) < ls.length) := by omega
    have hw := wrap64 (n := (i : Int) + 1) (by omega) (by omega)
    have hcast : ((i + 1 : Nat) : Int) = (i : Int) + 1 := by omega
    have hget : (ls.map GV.s)[i]? = some (.s ls[i]) := by rw [List.getElem?_map, List.getElem?_eq_getElem hlt]; rfl
    have hla : (acc.map GV.s).length = acc.length := List.length_map _
    have c1 : 2 * ((acc.map GV.s).length + 1) * 16 ≤ 281474976710656 ∧ (acc.map GV.s).length + 1 ≤ 281474976710656 := by omega
    rw [List.drop_eq_getElem_cons hlt, List.filter_cons]
    by_cases e : ls[i] = []
    · have ih := rw0 ls hl m (i + 1) acc (by omega) (by omega)
      rw [hcast] at ih
      rw [e]
      simp only [List.isEmpty_nil, Bool.not_true, Bool.false_eq_true, if_false]
      rw [e] at hget
      generalize (acc ++ (ls.drop (i + 1)).filter fun w => !w.isEmpty).map GV.s = O at *
      clear e
      generalize acc.map GV.s = A at *
      generalize ls.map GV.s = LS at *
      generalize (ls.length : Int) = L at *
      refine tree_lim rfl rfl ?_
      simp [h, hw, hget, ih]
    · have ih := rw0 ls hl m (i + 1) (acc ++ [ls[i]]) (by omega) (by rw [List.length_append, List.length_singleton]; omega)
      have hne : (!(ls[i]).isEmpty) = true := by simpa using e
      rw [hne, if_pos rfl]
      have happ : acc ++ [ls[i]] ++ (ls.drop (i + 1)).filter (fun w => !w.isEmpty) = acc ++ (ls[i] :: (ls.drop (i + 1)).filter fun w => !w.isEmpty) := by simp
      rw [hcast, happ, List.map_append (l₂ := [ls[i]]), List.map_cons, List.map_nil] at ih
      generalize (acc ++ (ls[i] :: (ls.drop (i + 1)).filter fun w => !w.isEmpty)).map GV.s = O at *
      have e' : (ls[i] = []) = False := eq_false e
      clear e hne happ
      generalize ls[i] = n at *
      generalize acc.map GV.s = A at *
      generalize ls.map GV.s = LS at *
      generalize (ls.length : Int) = L at *
      refine tree_lim rfl rfl ?_
      simp [h, hw, hget, e', elemS1, c1, ih]
theorem cutF_len (c : UInt8) : ∀ s : List UInt8, (cutF c s).length ≤ s.length + 1
  | [] => by simp [cutF]
  | b :: s => by
    have ih := cutF_len c s
    unfold cutF
    split
    · simp; omega
    · split
      · simp
      · next x r e => rw [e] at ih; simp at ih ⊢; omega
theorem words_ne {l : List UInt8} : ∀ w ∈ wordsF l, w ≠ [] := fun w hw => by
  have := (List.mem_filter.1 hw).2
  intro e; subst e; simp at this
theorem rwords_ok (s : List UInt8) (hs : s.length ≤ 70000) : TT.lim 21 [.s s] = some [.l ((lineF s).map .s)] := by
  have k1 := rcut_ok s 32 hs
  have hcl := cutF_len 32 s
  have k2 := rw0 (cutF 32 s) (by omega) (cutF 32 s).length 0 [] (by omega) (by simp)
  rw [List.drop_zero, List.nil_append, List.map_nil] at k2
  simp only [Int.natCast_zero] at k2
  have hll : (((cutF 32 s).map GV.s).length : Int) = ((cutF 32 s).length : Int) := by rw [List.length_map]
  change TT.lim _ _ = some [_, .l ((wordsF s).map .s)] at k2
  have e32 : ((32 : UInt8).toNat : Int) = 32 := rfl
  rw [e32] at k1
  unfold lineF
  have hne := words_ne (l := s)
  cases hws : wordsF s with
  | nil =>
    rw [hws] at k2
    rw [List.map_nil] at k2 ⊢
    generalize (cutF 32 s).map GV.s = C at *
    generalize ((cutF 32 s).length : Int) = CL at *
    refine fn_lim rfl rfl ?_ rfl
    simp [k1, hll, k2]
  | cons w r =>
    rw [hws] at k2
    obtain ⟨b, w', rfl⟩ := List.exists_cons_of_ne_nil (hne w (by rw [hws]; simp))
    rw [List.map_cons] at k2
    simp only [List.getElem?_cons_zero, Option.some.injEq]
    have hp : (0 : Int) < (((GV.s (b :: w') :: r.map GV.s).length : Nat) : Int) := by simp
    generalize (cutF 32 s).map GV.s = C at *
    generalize ((cutF 32 s).length : Int) = CL at *
    by_cases hb : b = 35
    · rw [if_pos hb]
      have e' : ((b.toNat : Int) = 35) = True := eq_true (by rw [hb]; rfl)
      clear hb
      refine fn_lim rfl rfl ?_ rfl
      simp [k1, hll, k2, e']
    · rw [if_neg hb]
      have e' : ((b.toNat : Int) = 35) = False := eq_false fun h => hb (UInt8.toNat_inj.1 (by show b.toNat = 35; omega))
      clear hb
      refine fn_lim rfl rfl ?_ rfl
      simp [k1, hll, k2, e']
def numE (w : List UInt8) (most : Nat) : Nat × Int := if (numF w).2 ≠ 0 then (0, (numF w).2) else if most < (numF w).1 then (0, 18) else ((numF w).1, 0)
def numsF : List (List UInt8) → List Nat → List Nat × Int
  | w :: ws, m :: ms => if (numE w m).2 ≠ 0 then ([], (numE w m).2) else if (numsF ws ms).2 ≠ 0 then ([], (numsF ws ms).2) else ((numE w m).1 :: (numsF ws ms).1, 0)
  | _, _ => ([], 0)
theorem parseM_lt {l : List UInt8} : ∀ {acc u : Nat}, acc < 18446744073709551616 → Lib.parseUintM (2 ^ 64 - 1) acc l = .ok u → u < 18446744073709551616 := by
  induction l with
  | nil => intro acc u ha h; simp only [Lib.parseUintM] at h; cases h; exact ha
  | cons c r ih =>
    intro acc u ha h
    simp only [Lib.parseUintM] at h
    split at h
    · split at h
      · cases h
      · split at h
        · cases h
        · exact ih (by omega) h
    · cases h
theorem numF_lt (w : List UInt8) : (numF w).1 < 18446744073709551616 := by
  unfold numF
  split
  · decide
  · split
    · next u h =>
      unfold Lib.parseUintB at h
      split at h
      · cases h
      · exact parseM_lt (by decide) h
    · decide
theorem numE_lt (w : List UInt8) (m : Nat) : (numE w m).1 < 18446744073709551616 := by
  unfold numE
  split
  · show 0 < _
    decide
  · split
    · show 0 < _
      decide
    · exact numF_lt w
theorem numE_le {w : List UInt8} {m : Nat} : (numE w m).1 ≤ m := by
  unfold numE
  split
  · exact Nat.zero_le _
  · split
    · exact Nat.zero_le _
    · simp only; omega
theorem getW {l : List UInt8} {i : Nat} (h : i < l.length) : l[i]? = some l[i] := List.getElem?_eq_getElem h
/-- The document's digits. -/
theorem rn0 (w : List UInt8) (most : GV) (hl : w.length ≤ 70000) : ∀ (m i : Nat), i + m = w.length →
    TT.lim 26 [.s w, most, .i .i64 i] = some [.i .i64 (if digB (w.drop i) = true then 1 else 0)]
  | 0, i, hi => by
    have h : ¬ ((i : Int) < w.length) := by omega
    rw [List.drop_eq_nil_of_le (by omega)]
    have e : digB [] = true := rfl
    rw [e, if_pos rfl]
    refine tree_lim rfl rfl ?_
    simp [h]
  | m + 1, i, hi => by
    have hlt : i < w.length := by omega
    have h : ((i : Int) < w.length) := by omega
    have hw := wrap64 (n := (i : Int) + 1) (by omega) (by omega)
    have hcast : ((i + 1 : Nat) : Int) = (i : Int) + 1 := by omega
    have hget := getW hlt
    have ih := rn0 w most hl m (i + 1) (by omega)
    rw [hcast] at ih
    rw [List.drop_eq_getElem_cons hlt]
    have hd : digB (w[i] :: w.drop (i + 1)) = ((decide (48 ≤ w[i].toNat) && decide (w[i].toNat ≤ 57)) && digB (w.drop (i + 1))) := rfl
    rw [hd]
    by_cases c1 : ((w[i].toNat : Nat) : Int) < 48
    · rw [decide_eq_false (by omega : ¬ 48 ≤ w[i].toNat), Bool.false_and, Bool.false_and, if_neg (by decide)]
      refine tree_lim rfl rfl ?_
      simp [h, hget, c1]
    · by_cases c2 : (57 : Int) < ((w[i].toNat : Nat) : Int)
      · rw [decide_eq_false (by omega : ¬ w[i].toNat ≤ 57), Bool.and_false, Bool.false_and, if_neg (by decide)]
        refine tree_lim rfl rfl ?_
        simp [h, hget, c1, c2]
      · rw [decide_eq_true (by omega : 48 ≤ w[i].toNat), decide_eq_true (by omega : w[i].toNat ≤ 57), Bool.and_true, Bool.true_and]
        generalize digB (w.drop (i + 1)) = D at *
        refine tree_lim rfl rfl ?_
        simp [h, hw, hget, c1, c2, ih]
/-- The document's value of digits. -/
theorem rn1 (w : List UInt8) (most : GV) (hl : w.length ≤ 70000) (hd : digB w = true) : ∀ (m i acc : Nat), i + m = w.length → acc < 18446744073709551616 →
    TT.lim 27 [.s w, most, .i .u64 acc, .i .i64 i] = some (match Lib.parseUintM (2 ^ 64 - 1) acc (w.drop i) with | .ok u => [.i .i64 1, .i .u64 u] | _ => [.i .i64 0])
  | 0, i, acc, hi, ha => by
    have h : ¬ ((i : Int) < w.length) := by omega
    rw [List.drop_eq_nil_of_le (by omega)]
    simp only [Lib.parseUintM]
    refine tree_lim rfl rfl ?_
    simp [h]
  | m + 1, i, acc, hi, ha => by
    have hlt : i < w.length := by omega
    have h : ((i : Int) < w.length) := by omega
    have hw := wrap64 (n := (i : Int) + 1) (by omega) (by omega)
    have hcast : ((i + 1 : Nat) : Int) = (i : Int) + 1 := by omega
    have hget := getW hlt
    have hdi : 48 ≤ w[i].toNat ∧ w[i].toNat ≤ 57 := by
      have := List.all_eq_true.1 hd w[i] (List.getElem_mem hlt)
      simpa using this
    rw [List.drop_eq_getElem_cons hlt]
    simp only [Lib.parseUintM]
    rw [if_pos hdi]
    obtain ⟨d, hdd⟩ : ∃ d : Nat, w[i].toNat = 48 + d := ⟨w[i].toNat - 48, by omega⟩
    have w8 : IntKind.u8.wrap (((w[i].toNat : Nat) : Int) - 48) = (d : Int) := by
      rw [hdd]
      have : ((48 + d : Nat) : Int) - 48 = d := by omega
      rw [this]
      simp [IntKind.wrap, IntKind.signed, IntKind.bits]
      omega
    have wu := wrapu64 (n := (d : Int)) (by omega) (by omega)
    have w3 := wrapu64 (n := 18446744073709551615 - (d : Int)) (by omega) (by omega)
    have wq : IntKind.u64.wrap ((18446744073709551615 - (d : Int)).tdiv 10) = (18446744073709551615 - (d : Int)) / 10 := by
      rw [Int.tdiv_eq_ediv_of_nonneg (by omega)]
      exact wrapu64 (by omega) (by omega)
    have e0 : w[i].toNat - 48 = d := by omega
    rw [e0]
    by_cases c1 : 1844674407370955162 ≤ acc
    · rw [if_pos c1]
      have c : (18446744073709551615 - (d : Int)) / 10 < (acc : Int) := by omega
      refine tree_lim rfl rfl ?_
      simp [h, hget, w8, wu, w3, wq, c, Int.not_le.2 c]
    · rw [if_neg c1]
      by_cases c2 : 2 ^ 64 - 1 < acc * 10 + d
      · rw [if_pos c2]
        have c : (18446744073709551615 - (d : Int)) / 10 < (acc : Int) := by omega
        refine tree_lim rfl rfl ?_
        simp [h, hget, w8, wu, w3, wq, c, Int.not_le.2 c]
      · rw [if_neg c2]
        have c : ¬ (18446744073709551615 - (d : Int)) / 10 < (acc : Int) := by omega
        have ih := rn1 w most hl hd m (i + 1) (acc * 10 + d) (by omega) (by omega)
        have w4 := wrapu64 (n := 10 * (acc : Int)) (by omega) (by omega)
        have w5 := wrapu64 (n := 10 * (acc : Int) + d) (by omega) (by omega)
        rw [hcast, show ((acc * 10 + d : Nat) : Int) = 10 * (acc : Int) + d by omega] at ih
        refine tree_lim rfl rfl ?_
        simp [h, hw, hget, w8, wu, w3, wq, w4, w5, c, Int.not_lt.1 c, ih]
theorem numF_bad {w : List UInt8} (h : w = [] ∨ digB w = false ∨ (1 < w.length ∧ w[0]? = some 48)) : numF w = (0, 23) := by unfold numF; rw [if_pos h]
theorem numF_good {w : List UInt8} (h : ¬ (w = [] ∨ digB w = false ∨ (1 < w.length ∧ w[0]? = some 48))) : numF w = (match Lib.parseUintM (2 ^ 64 - 1) 0 w with | .ok u => (u, 0) | _ => (0, 3)) := by
  have hw : w ≠ [] := fun e => h (.inl e)
  unfold numF
  rw [if_neg h]
  unfold Lib.parseUintB
  rw [if_neg hw]
  cases Lib.parseUintM (2 ^ 64 - 1) 0 w <;> rfl
theorem numE_bad {w : List UInt8} {m : Nat} (h : (numF w).2 ≠ 0) : numE w m = (0, (numF w).2) := by unfold numE; rw [if_pos h]
theorem rnum_ok (w : List UInt8) (most : Nat) (hl : w.length ≤ 70000) : TT.lim 25 [.s w, .i .u64 most] = some [.i .u64 (numE w most).1, .i .i64 (numE w most).2] := by
  by_cases h0 : w = []
  · have e := numF_bad (.inl h0)
    have e2 := numE_bad (w := w) (m := most) (by rw [e]; decide)
    rw [e2, e]
    subst h0
    refine fn_lim rfl rfl ?_ rfl
    simp
  obtain ⟨b, r, rfl⟩ := List.exists_cons_of_ne_nil h0
  have k0 := rn0 (b :: r) (.i .u64 most) hl (b :: r).length 0 (by omega)
  rw [List.drop_zero] at k0
  simp only [Int.natCast_zero] at k0
  by_cases hz : 1 < (b :: r).length ∧ (b :: r)[0]? = some 48
  · have e := numF_bad (.inr (.inr hz))
    have e2 := numE_bad (w := b :: r) (m := most) (by rw [e]; decide)
    rw [e2, e]
    obtain ⟨h1, h2⟩ := hz
    simp only [List.getElem?_cons_zero, Option.some.injEq] at h2
    subst h2
    have h1' : (1 : Int) < (r.length : Int) + 1 := by rw [List.length_cons] at h1; omega
    refine fn_lim rfl rfl ?_ rfl
    simp [h1']
  have hz' : (1 : Int) < (r.length : Int) + 1 → ¬ (b.toNat : Int) = 48 := fun h1 h2 => hz ⟨by rw [List.length_cons]; omega, by
    simp only [List.getElem?_cons_zero, Option.some.injEq]
    exact UInt8.toNat_inj.1 (by show b.toNat = 48; omega)⟩
  cases hd : digB (b :: r) with
  | false =>
    have e := numF_bad (.inr (.inl hd))
    have e2 := numE_bad (w := b :: r) (m := most) (by rw [e]; decide)
    rw [e2, e]
    rw [hd] at k0
    simp only [Bool.false_eq_true, if_false] at k0
    by_cases h1 : (1 : Int) < (r.length : Int) + 1
    · have h2 := hz' h1
      refine fn_lim rfl rfl ?_ rfl
      simp [h1, h2, k0]
    · refine fn_lim rfl rfl ?_ rfl
      simp [h1, k0]
  | true =>
    have e := numF_good (w := b :: r) (fun h => by
      rcases h with h | h | h
      · cases h
      · rw [hd] at h; cases h
      · exact hz h)
    have k1 := rn1 (b :: r) (.i .u64 most) hl hd (b :: r).length 0 0 (by omega) (by decide)
    rw [List.drop_zero] at k1
    simp only [Int.natCast_zero] at k1
    rw [hd] at k0
    simp only [if_true] at k0
    have fin : TT.lim 27 [.s (b :: r), .i .u64 most, .i .u64 0, .i .i64 0] = some [.i .i64 0] ∧ numE (b :: r) most = (0, 3) ∨ ∃ u : Nat, TT.lim 27 [.s (b :: r), .i .u64 most, .i .u64 0, .i .i64 0] = some [.i .i64 1, .i .u64 u] ∧ numE (b :: r) most = (if most < u then (0, 18) else (u, 0)) := by
      unfold numE
      rw [e]
      cases hp : Lib.parseUintM (2 ^ 64 - 1) 0 (b :: r) with
      | ok u =>
        rw [hp] at k1
        exact .inr ⟨u, k1, by simp⟩
      | _ =>
        rw [hp] at k1
        exact .inl ⟨k1, by simp⟩
    clear k1 e hd hz
    rcases fin with ⟨k1, e⟩ | ⟨u, k1, e⟩
    · rw [e]
      by_cases h1 : (1 : Int) < (r.length : Int) + 1
      · have h2 := hz' h1
        refine fn_lim rfl rfl ?_ rfl
        simp [h1, h2, k0, k1]
      · refine fn_lim rfl rfl ?_ rfl
        simp [h1, k0, k1]
    · rw [e]
      by_cases hm : most < u
      · rw [if_pos hm]
        have hm' : ((most : Int) < (u : Int)) := by omega
        by_cases h1 : (1 : Int) < (r.length : Int) + 1
        · have h2 := hz' h1
          refine fn_lim rfl rfl ?_ rfl
          simp [h1, h2, k0, k1, hm]
        · refine fn_lim rfl rfl ?_ rfl
          simp [h1, k0, k1, hm]
      · rw [if_neg hm]
        by_cases h1 : (1 : Int) < (r.length : Int) + 1
        · have h2 := hz' h1
          refine fn_lim rfl rfl ?_ rfl
          simp [h1, h2, k0, k1, hm]
        · refine fn_lim rfl rfl ?_ rfl
          simp [h1, k0, k1, hm]
def nG (n : Nat) : GV := .i .u64 n
theorem elemN (n : Int) : (GV.i .u64 n).elemOk 1 = true := rfl
theorem numsF_err {ws : List (List UInt8)} {ms : List Nat} (h : (numsF ws ms).2 ≠ 0) : (numsF ws ms).1 = [] := by
  unfold numsF at h ⊢
  split
  · split
    · rfl
    · next h2 =>
      simp only [if_neg h2] at h
      split
      · rfl
      · next h3 => rw [if_neg h3] at h; exact absurd rfl h
  · rfl
theorem numsF_cons (w : List UInt8) (ws : List (List UInt8)) (m : Nat) (ms : List Nat) : numsF (w :: ws) (m :: ms) = if (numE w m).2 ≠ 0 then ([], (numE w m).2) else if (numsF ws ms).2 ≠ 0 then ([], (numsF ws ms).2) else ((numE w m).1 :: (numsF ws ms).1, 0) := rfl
def ansN (acc : List Nat) (N : List Nat × Int) : List GV := if N.2 = 0 then [.i .i64 1, .l ((acc ++ N.1).map nG)] else [.i .i64 0, .i .i64 N.2]
theorem ansN_cons (acc : List Nat) (v : Nat) (N : List Nat × Int) : ansN acc (if N.2 ≠ 0 then ([], N.2) else (v :: N.1, 0)) = ansN (acc ++ [v]) N := by
  unfold ansN
  by_cases e : N.2 = 0
  · simp [e]
  · simp [e]
theorem pnums0 (ws : List (List UInt8)) (ms : List Nat) (hl : ms.length = ws.length) (hw : ∀ w ∈ ws, w.length ≤ 70000) (hm : ms.length ≤ 1000) : ∀ (m i : Nat) (acc : List Nat), i + m = ms.length → acc.length ≤ i →
    TT.lim 7 [.l (ws.map .s), .l (acc.map nG), .l (ms.map nG), .i .i64 ms.length, .i .i64 i] = some (ansN acc (numsF (ws.drop i) (ms.drop i)))
  | 0, i, acc, hi, ha => by
    have h : ¬ ((i : Int) < ms.length) := by omega
    rw [List.drop_eq_nil_of_le (show ms.length ≤ i by omega), List.drop_eq_nil_of_le (show ws.length ≤ i by omega)]
    have e : ansN acc (numsF [] []) = [.i .i64 1, .l (acc.map nG)] := by simp [ansN, numsF]
    rw [e]
    generalize acc.map nG = A at *
    refine tree_lim rfl rfl ?_
    simp [h]
  | m + 1, i, acc, hi, ha => by
    have hlt : i < ms.length := by omega
    have hlt2 : i < ws.length := by omega
    have h : ((i : Int) < ms.length) := by omega
    have hwr := wrap64 (n := (i : Int) + 1) (by omega) (by omega)
    have hcast : ((i + 1 : Nat) : Int) = (i : Int) + 1 := by omega
    have hg1 : (ws.map GV.s)[i]? = some (.s ws[i]) := by rw [List.getElem?_map, List.getElem?_eq_getElem hlt2]; rfl
    have hg2 : (ms.map nG)[i]? = some (.i .u64 ms[i]) := by rw [List.getElem?_map, List.getElem?_eq_getElem hlt]; rfl
    have k := tnum ws[i] (by have := hw _ (List.getElem_mem hlt2); omega)
    have hla : (acc.map nG).length = acc.length := List.length_map _
    have c1 : 2 * ((acc.map nG).length + 1) * 8 ≤ 281474976710656 ∧ (acc.map nG).length + 1 ≤ 281474976710656 := by omega
    rw [List.drop_eq_getElem_cons hlt, List.drop_eq_getElem_cons hlt2]
    rw [numsF_cons]
    by_cases e1 : (numF ws[i]).2 = 0
    rotate_left
    · rw [numE_bad e1, if_pos e1]
      have e0 : ∀ e : Int, e ≠ 0 → ansN acc ([], e) = [.i .i64 0, .i .i64 e] := fun e h => by simp [ansN, h]
      rw [e0 _ (by simpa using e1)]
      clear e0
      clear hla c1
      generalize (numF ws[i]).2 = e at *
      generalize (numF ws[i]).1 = v at *
      generalize ws.map GV.s = W at *
      generalize ms.map nG = M at *
      generalize acc.map nG = A at *
      refine tree_lim rfl rfl ?_
      simp [h, hg1, hg2, k, e1]
    · by_cases e2 : ms[i] < (numF ws[i]).1
      · have : numE ws[i] ms[i] = (0, 18) := by unfold numE; rw [if_neg (by simpa using e1), if_pos e2]
        rw [this, if_pos (by decide)]
        have e0 : ansN acc ([], 18) = [.i .i64 0, .i .i64 18] := by simp [ansN]
        simp only
        rw [e0]
        clear e0
        rw [e1] at k
        clear hla c1
        generalize (numF ws[i]).1 = v at *
        generalize ms[i] = mo at *
        generalize ws.map GV.s = W at *
        generalize ms.map nG = M at *
        generalize acc.map nG = A at *
        refine tree_lim rfl rfl ?_
        simp [h, hg1, hg2, k, e2]
      · have e3 : numE ws[i] ms[i] = ((numF ws[i]).1, 0) := by unfold numE; rw [if_neg (by simpa using e1), if_neg e2]
        rw [e3]
        rw [e1] at k
        rw [if_neg (by simp), ansN_cons]
        have ih := pnums0 ws ms hl hw hm m (i + 1) (acc ++ [(numF ws[i]).1]) (by omega) (by rw [List.length_append, List.length_singleton]; omega)
        rw [hcast] at ih
        generalize numsF (ws.drop (i + 1)) (ms.drop (i + 1)) = N at *
        rw [List.map_append, List.map_cons, List.map_nil] at ih
        have fin : ∀ X, TT.lim 7 [.l (ws.map .s), .l (acc.map nG ++ [nG (numF ws[i]).1]), .l (ms.map nG), .i .i64 ms.length, .i .i64 ((i : Int) + 1)] = some X → TT.lim 7 [.l (ws.map .s), .l (acc.map nG), .l (ms.map nG), .i .i64 ms.length, .i .i64 i] = some X := fun X ih => by
          have hv : nG (numF ws[i]).1 = .i .u64 ((numF ws[i]).1 : Nat) := rfl
          rw [hv] at ih
          clear hv
          have e2' := Nat.not_lt.1 e2
          clear hla
          generalize (numF ws[i]).1 = v at *
          generalize ms[i] = mo at *
          generalize ws.map GV.s = W at *
          generalize ms.map nG = M at *
          generalize acc.map nG = A at *
          refine tree_lim rfl rfl ?_
          simp [h, hwr, hg1, hg2, k, e2, c1, elemN, ih]
        exact fin _ ih
theorem pnums_ok (ws : List (List UInt8)) (ms : List Nat) (hl : ms.length = ws.length) (hw : ∀ w ∈ ws, w.length ≤ 70000) (hm : ms.length ≤ 1000) : TT.lim 6 [.l (ws.map .s), .l (ms.map nG)] = some [.l ((numsF ws ms).1.map nG), .i .i64 (numsF ws ms).2] := by
  have k := pnums0 ws ms hl hw hm ms.length 0 [] (by omega) (by simp)
  rw [List.drop_zero, List.drop_zero, List.map_nil] at k
  simp only [Int.natCast_zero] at k
  have hml : (((ms.map nG).length : Nat) : Int) = (ms.length : Int) := by rw [List.length_map]
  have he := numsF_err (ws := ws) (ms := ms)
  generalize ws.map GV.s = W at *
  generalize ms.map nG = M at *
  generalize (ms.length : Int) = ML at *
  by_cases e : (numsF ws ms).2 = 0
  · unfold ansN at k
    rw [if_pos e, List.nil_append] at k
    rw [e]
    generalize (numsF ws ms).1.map nG = O at *
    refine fn_lim rfl rfl ?_ rfl
    simp [hml, k]
  · unfold ansN at k
    rw [if_neg e] at k
    rw [he e, List.map_nil]
    generalize (numsF ws ms).2 = E at *
    refine fn_lim rfl rfl ?_ rfl
    simp [hml, k]
theorem rnums0 (ws : List (List UInt8)) (ms : List Nat) (hl : ms.length = ws.length) (hw : ∀ w ∈ ws, w.length ≤ 70000) (hm : ms.length ≤ 1000) : ∀ (m i : Nat) (acc : List Nat), i + m = ws.length → acc.length ≤ i →
    TT.lim 24 [.l (ws.map .s), .l (ms.map nG), .l (acc.map nG), .i .i64 ws.length, .i .i64 i] = some (ansN acc (numsF (ws.drop i) (ms.drop i)))
  | 0, i, acc, hi, ha => by
    have h : ¬ ((i : Int) < ws.length) := by omega
    rw [List.drop_eq_nil_of_le (show ms.length ≤ i by omega), List.drop_eq_nil_of_le (show ws.length ≤ i by omega)]
    have e : ansN acc (numsF [] []) = [.i .i64 1, .l (acc.map nG)] := by simp [ansN, numsF]
    rw [e]
    generalize acc.map nG = A at *
    refine tree_lim rfl rfl ?_
    simp [h]
  | m + 1, i, acc, hi, ha => by
    have hlt : i < ms.length := by omega
    have hlt2 : i < ws.length := by omega
    have h : ((i : Int) < ws.length) := by omega
    have hwr := wrap64 (n := (i : Int) + 1) (by omega) (by omega)
    have hcast : ((i + 1 : Nat) : Int) = (i : Int) + 1 := by omega
    have hg1 : (ws.map GV.s)[i]? = some (.s ws[i]) := by rw [List.getElem?_map, List.getElem?_eq_getElem hlt2]; rfl
    have hg2 : (ms.map nG)[i]? = some (.i .u64 ms[i]) := by rw [List.getElem?_map, List.getElem?_eq_getElem hlt]; rfl
    have k := rnum_ok ws[i] ms[i] (hw _ (List.getElem_mem hlt2))
    have hla : (acc.map nG).length = acc.length := List.length_map _
    have c1 : 2 * ((acc.map nG).length + 1) * 8 ≤ 281474976710656 ∧ (acc.map nG).length + 1 ≤ 281474976710656 := by omega
    rw [List.drop_eq_getElem_cons hlt, List.drop_eq_getElem_cons hlt2]
    rw [numsF_cons]
    by_cases e1 : (numE ws[i] ms[i]).2 = 0
    rotate_left
    · rw [if_pos (by simpa using e1)]
      have e0 : ansN acc ([], (numE ws[i] ms[i]).2) = [.i .i64 0, .i .i64 (numE ws[i] ms[i]).2] := by simp [ansN, e1]
      rw [e0]
      clear e0
      clear hla c1
      generalize (numE ws[i] ms[i]).2 = e at *
      generalize (numE ws[i] ms[i]).1 = v at *
      generalize ws.map GV.s = W at *
      generalize ms.map nG = M at *
      generalize acc.map nG = A at *
      refine tree_lim rfl rfl ?_
      simp [h, hg1, hg2, k, e1]
    · rw [e1] at k
      rw [if_neg (by simpa using e1), ansN_cons]
      have ih := rnums0 ws ms hl hw hm m (i + 1) (acc ++ [(numE ws[i] ms[i]).1]) (by omega) (by rw [List.length_append, List.length_singleton]; omega)
      rw [hcast] at ih
      generalize numsF (ws.drop (i + 1)) (ms.drop (i + 1)) = N at *
      rw [List.map_append, List.map_cons, List.map_nil] at ih
      have fin : ∀ X, TT.lim 24 [.l (ws.map .s), .l (ms.map nG), .l (acc.map nG ++ [nG (numE ws[i] ms[i]).1]), .i .i64 ws.length, .i .i64 ((i : Int) + 1)] = some X → TT.lim 24 [.l (ws.map .s), .l (ms.map nG), .l (acc.map nG), .i .i64 ws.length, .i .i64 i] = some X := fun X ih => by
        have hv : nG (numE ws[i] ms[i]).1 = .i .u64 ((numE ws[i] ms[i]).1 : Nat) := rfl
        rw [hv] at ih
        clear hv
        clear hla
        generalize (numE ws[i] ms[i]).1 = v at *
        generalize ms[i] = mo at *
        generalize ws.map GV.s = W at *
        generalize ms.map nG = M at *
        generalize acc.map nG = A at *
        refine tree_lim rfl rfl ?_
        simp [h, hwr, hg1, hg2, k, c1, elemN, ih]
      exact fin _ ih
theorem rnums_ok (ws : List (List UInt8)) (ms : List Nat) (hw : ∀ w ∈ ws, w.length ≤ 70000) (hm : ms.length ≤ 1000) : TT.lim 23 [.l (ws.map .s), .l (ms.map nG)] = some (if ws.length = ms.length then [.l ((numsF ws ms).1.map nG), .i .i64 (numsF ws ms).2] else [.l [], .i .i64 23]) := by
  have hml : (((ms.map nG).length : Nat) : Int) = (ms.length : Int) := by rw [List.length_map]
  have hwl : (((ws.map GV.s).length : Nat) : Int) = (ws.length : Int) := by rw [List.length_map]
  by_cases hl : ws.length = ms.length
  rotate_left
  · rw [if_neg hl]
    have hl' : ¬ (ws.length : Int) = ms.length := by omega
    generalize ws.map GV.s = W at *
    generalize ms.map nG = M at *
    refine fn_lim rfl rfl ?_ rfl
    simp [hml, hwl, hl']
  rw [if_pos hl]
  have k := rnums0 ws ms hl.symm hw hm ws.length 0 [] (by omega) (by simp)
  rw [List.drop_zero, List.drop_zero, List.map_nil] at k
  simp only [Int.natCast_zero] at k
  have he := numsF_err (ws := ws) (ms := ms)
  rw [hl] at hwl k
  generalize ws.map GV.s = W at *
  generalize ms.map nG = M at *
  generalize (ms.length : Int) = ML at *
  by_cases e : (numsF ws ms).2 = 0
  · unfold ansN at k
    rw [if_pos e, List.nil_append] at k
    rw [e]
    generalize (numsF ws ms).1.map nG = O at *
    refine fn_lim rfl rfl ?_ rfl
    simp [hml, hwl, k]
  · unfold ansN at k
    rw [if_neg e] at k
    rw [he e, List.map_nil]
    generalize (numsF ws ms).2 = E at *
    refine fn_lim rfl rfl ?_ rfl
    simp [hml, hwl, k]
end V
end Go.Proofs.YtcnadokjijncjaaGreatDoor
