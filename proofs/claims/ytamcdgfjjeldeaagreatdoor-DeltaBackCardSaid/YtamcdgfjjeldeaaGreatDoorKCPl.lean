/- Tables, told of trees: what the functions compute. -/
import Derived.Test.YtamcdgfjjeldeaaGreatDoorKCT
import Derived.Test.YtamcdgfjjeldeaaGreatDoorAbsPl
namespace Go.Proofs.YtamcdgfjjeldeaaGreatDoor
open Go Go.Abs
set_option linter.unusedSimpArgs false
set_option linter.unusedVariables false
set_option maxRecDepth 100000
namespace C
/-- An entry: key and value. A row: its entries and its number. -/
abbrev Ent := List UInt8 × List UInt8
abbrev Row := List Ent × Int
def ent (x : Ent) : GV := .g [.s x.1, .s x.2]
def row (r : Row) : GV := .g [.l (r.1.map ent), .i .u64 r.2]
@[simp] theorem ent_cells (x : Ent) : (ent x).cells = [.s x.1, .s x.2] := rfl
@[simp] theorem row_cells (r : Row) : (row r).cells = [.l (r.1.map ent), .i .u64 r.2] := rfl
@[simp] theorem ent_scalar (x : Ent) : (ent x).scalar = false := rfl
@[simp] theorem row_scalar (r : Row) : (row r).scalar = false := rfl
theorem ent_fold (x : Ent) : GV.g [.s x.1, .s x.2] = ent x := rfl
theorem row_fold (d : List Ent) (n : Int) : GV.g [.l (d.map ent), .i .u64 n] = row (d, n) := rfl
/-- Texts and lists of no more than any machine bears. -/
def Ents (d : List Ent) : Prop := d.length ≤ 140737488351232 ∧ ∀ x ∈ d, x.1.length ≤ 140737488351232 ∧ x.2.length ≤ 140737488351232
def Rows (l : List Row) : Prop := l.length ≤ 140737488351232 ∧ ∀ r ∈ l, Ents r.1 ∧ 0 ≤ r.2 ∧ r.2 < 18446744073709551616

/-! ### Few entries -/
def fewE (x : Ent) : Bool := decide (x.1.length + x.2.length ≤ 600)
theorem loop5 (d : List Ent) (hd : Ents d) : ∀ m i : Nat, i + m = d.length → TT.lim 5 [.l (d.map ent), .i .i64 d.length, .i .i64 i] = some (if (d.drop i).all fewE = true then [.i .i64 1, .l (d.map ent)] else [.i .i64 0])
  | 0, i, hi => by
    have h0 : d.drop i = [] := List.drop_eq_nil_of_le (by omega)
    refine tree_lim rfl rfl ?_
    have h : ¬ ((i : Int) < d.length) := by omega
    simp [h, h0]
  | m + 1, i, hi => by
    have hlt : i < d.length := by omega
    have ih : TT.lim 5 [.l (d.map ent), .i .i64 d.length, .i .i64 ((i : Int) + 1)] = _ := loop5 d hd m (i + 1) (by omega)
    refine tree_lim rfl rfl ?_
    have h : ((i : Int) < d.length) := by omega
    have hw := wrap64 (n := (i : Int) + 1) (by omega) (by have := hd.1; omega)
    have hx := hd.2 d[i] (List.getElem_mem hlt)
    have hw2 := wrap64 (n := (d[i].1.length : Int) + (d[i].2.length : Int)) (by omega) (by omega)
    have hda : (d.drop i).all fewE = (fewE d[i] && (d.drop (i + 1)).all fewE) := by rw [List.drop_eq_getElem_cons hlt, List.all_cons]
    by_cases hf : (600 : Int) < (d[i].1.length : Int) + (d[i].2.length : Int)
    · have : fewE d[i] = false := by unfold fewE; simp; omega
      simp [h, hlt, hw2, hf, hda, this]
    · have : fewE d[i] = true := by unfold fewE; simp; omega
      rw [hda, this, Bool.true_and]
      simp [h, hlt, hw, hw2, hf, ih]
def few12 (d : List Ent) : Bool := d.all fewE && decide (d.length ≤ 40)
theorem few4 (d : List Ent) (hd : Ents d) : TT.lim 4 [.l (d.map ent)] = some [.b (few12 d)] := by
  refine fn_lim rfl rfl ?_ rfl
  have h5 : TT.lim 5 [.l (d.map ent), .i .i64 d.length, .i .i64 0] = _ := loop5 d hd d.length 0 (by omega)
  rw [List.drop_zero] at h5
  cases hc : d.all fewE with
  | false => rw [hc] at h5; simp [h5, few12, hc]
  | true =>
    rw [hc] at h5; simp only [if_true] at h5
    have : (decide ((d.length : Int) ≤ 40)) = decide (d.length ≤ 40) := by rw [Bool.eq_iff_iff]; simp; omega
    simp [h5, few12, hc, this]

/-! ### Numbers, as they are written -/
def vput (n : Nat) : List UInt8 := if n < 128 then [UInt8.ofNat n] else UInt8.ofNat (n % 128 + 128) :: vput (n / 128)
termination_by n
decreasing_by omega
theorem vput_lt {n : Nat} (h : n < 128) : vput n = [UInt8.ofNat n] := by rw [vput, if_pos h]
theorem vput_ge {n : Nat} (h : ¬ n < 128) : vput n = UInt8.ofNat (n % 128 + 128) :: vput (n / 128) := by rw [vput, if_neg h]
theorem u8_inj {a b : Nat} (ha : a < 256) (hb : b < 256) (h : UInt8.ofNat a = UInt8.ofNat b) : a = b := by
  have := congrArg UInt8.toNat h
  simp at this
  omega
/-- No number's bytes begin another's. -/
theorem vput_inj : ∀ (n m : Nat) (x y : List UInt8), vput n ++ x = vput m ++ y → n = m ∧ x = y := by
  intro n
  induction n using Nat.strongRecOn with
  | _ n ih =>
    intro m x y h
    by_cases hn : n < 128 <;> by_cases hm : m < 128
    · rw [vput_lt hn, vput_lt hm] at h
      simp only [List.cons_append, List.nil_append, List.cons.injEq] at h
      exact ⟨u8_inj (by omega) (by omega) h.1, h.2⟩
    · rw [vput_lt hn, vput_ge hm] at h
      simp only [List.cons_append, List.nil_append, List.cons.injEq] at h
      have := u8_inj (by omega) (by omega) h.1
      omega
    · rw [vput_ge hn, vput_lt hm] at h
      simp only [List.cons_append, List.nil_append, List.cons.injEq] at h
      have := u8_inj (by omega) (by omega) h.1
      omega
    · rw [vput_ge hn, vput_ge hm] at h
      simp only [List.cons_append, List.cons.injEq] at h
      have h1 := u8_inj (by omega) (by omega) h.1
      obtain ⟨h2, h3⟩ := ih (n / 128) (by omega) (m / 128) x y h.2
      exact ⟨by omega, h3⟩
def vsize (n : Nat) : Nat := (vput n).length
theorem shr7 {n : Int} (h0 : 0 ≤ n) : n.fdiv (2 ^ (7 : Nat)) = n / 128 := by
  rw [Int.fdiv_eq_ediv_of_nonneg _ (by decide)]; rfl
theorem shr_u64 {n : Nat} : shG .shr .u64 (n : Int) 7 = some (.i .u64 ((n / 128 : Nat) : Int)) := by
  have : ((n : Int)).fdiv (2 ^ (7 : Nat)) = ((n / 128 : Nat) : Int) := by rw [shr7 (by omega)]; omega
  simp [shG, IntKind.bits]
  exact this
theorem vsize_pos (n : Nat) : 0 < vsize n := by unfold vsize; rw [vput]; split <;> simp
theorem vsize_ge {n : Nat} (h : ¬ n < 128) : vsize n = vsize (n / 128) + 1 := by unfold vsize; rw [vput_ge h]; rfl
theorem vsize_le : ∀ (k n : Nat), 0 < k → n < 128 ^ k → vsize n ≤ k
  | 0, _, h, _ => by omega
  | k + 1, n, _, h => by
    by_cases hn : n < 128
    · unfold vsize; rw [vput_lt hn]; simp
    · rw [vsize_ge hn]
      cases k with
      | zero => simp at h; omega
      | succ k =>
        have : n / 128 < 128 ^ (k + 1) := by rw [Nat.pow_succ] at h; omega
        have := vsize_le (k + 1) (n / 128) (by omega) this
        omega
theorem vsize64 {n : Nat} (h : n < 18446744073709551616) : vsize n ≤ 10 := vsize_le 10 n (by omega) (by omega)
theorem loop9 : ∀ (n s : Nat), s + vsize n ≤ 1000 → n < 18446744073709551616 → TT.lim 9 [.i .u64 n, .i .i64 s] = some [.i .i64 0, .i .i64 ((s + vsize n - 1 : Nat) : Int)] := by
  intro n
  induction n using Nat.strongRecOn with
  | _ n ih =>
    intro s hs hn
    refine tree_lim rfl rfl ?_
    by_cases h : n < 128
    · have h' : ¬ (128 : Int) ≤ n := by omega
      simp [h', vsize, vput_lt h]
    · have h' : (128 : Int) ≤ n := by omega
      have hv := vsize_ge h
      have hp := vsize_pos (n / 128)
      have hw := wrap64 (n := (s : Int) + 1) (by omega) (by omega)
      have ih' : TT.lim 9 [.i .u64 ((n / 128 : Nat) : Int), .i .i64 ((s : Int) + 1)] = _ := ih (n / 128) (by omega) (s + 1) (by omega) (by omega)
      have hn' : s + vsize n - 1 = s + 1 + vsize (n / 128) - 1 := by omega
      rw [hn']
      have h7 : shG .shr .u64 (n : Int) 7 = some (.i .u64 ((n / 128 : Nat) : Int)) := shr_u64
      generalize ((n / 128 : Nat) : Int) = q at h7 ih'
      simp [h', hw, h7, ih']
theorem size8 (n : Nat) (hn : n < 18446744073709551616) : TT.lim 8 [.i .u64 n] = some [.i .i64 (vsize n)] := by
  have hp := vsize_pos n
  have h9 : TT.lim 9 [.i .u64 n, .i .i64 1] = _ := loop9 n 1 (by have := vsize64 hn; omega) hn
  rw [show 1 + vsize n - 1 = vsize n by omega] at h9
  refine fn_lim rfl rfl ?_ rfl
  simp [h9]
/-- The bytes of a number, each with its high bit set. -/
def vraw : Nat → Nat → List Nat
  | 0, _ => []
  | k + 1, n => (n % 128 + 128) :: vraw k (n / 128)
def byteG (n : Nat) : GV := .i .u8 n
theorem and127 (n : Nat) (hn : n < 18446744073709551616) : intG .and .u64 (n : Int) 127 = some (.i .u64 ((n % 128 : Nat) : Int)) := by
  have h1 : ((BitVec.ofInt 64 (n : Int) &&& BitVec.ofInt 64 127).toNat : Nat) = n % 128 := by
    rw [BitVec.toNat_and, BitVec.toNat_ofInt, BitVec.toNat_ofInt]
    have e1 : ((n : Int) % ((2 ^ 64 : Nat) : Int)).toNat = n := by omega
    have e2 : ((127 : Int) % ((2 ^ 64 : Nat) : Int)).toNat = 2 ^ 7 - 1 := by decide
    rw [e1, e2, Nat.and_two_pow_sub_one_eq_mod]
  show some (GV.i .u64 (IntKind.u64.wrap (((BitVec.ofInt 64 (n : Int) &&& BitVec.ofInt 64 127).toNat : Nat) : Int))) = _
  rw [h1, wrapu64 (by omega) (by omega)]
theorem and127_8 (n : Nat) (hn : n < 256) : intG .and .u8 (n : Int) 127 = some (.i .u8 ((n % 128 : Nat) : Int)) := by
  have : ∀ x : Fin 256, IntKind.u8.wrap (((BitVec.ofInt IntKind.u8.bits ((x.val : Nat) : Int) &&& BitVec.ofInt IntKind.u8.bits 127).toNat : Nat) : Int) = ((x.val % 128 : Nat) : Int) := by decide +kernel
  show some (GV.i .u8 _) = some (GV.i .u8 _)
  exact congrArg (fun z => some (GV.i .u8 z)) (this ⟨n, hn⟩)
theorem or128 (n : Nat) (hn : n < 128) : intG .or .u8 (n : Int) 128 = some (.i .u8 ((n + 128 : Nat) : Int)) := by
  have : ∀ x : Fin 128, IntKind.u8.wrap (((BitVec.ofInt IntKind.u8.bits ((x.val : Nat) : Int) ||| BitVec.ofInt IntKind.u8.bits 128).toNat : Nat) : Int) = ((x.val + 128 : Nat) : Int) := by decide +kernel
  show some (GV.i .u8 _) = some (GV.i .u8 _)
  exact congrArg (fun z => some (GV.i .u8 z)) (this ⟨n, hn⟩)
theorem wrapu8 {n : Int} (h0 : 0 ≤ n) (h1 : n < 256) : IntKind.u8.wrap n = n := by
  have : IntKind.u8.wrap n = n % 256 := by simp [IntKind.wrap, IntKind.signed, IntKind.bits]
  rw [this]; omega
@[simp] theorem byteG_cells (n : Nat) : (byteG n).cells = [byteG n] := rfl
@[simp] theorem byteG_scalar (n : Nat) : (byteG n).scalar = true := rfl
@[simp] theorem byteG_put (n : Nat) (v : GV) : (byteG n).put 0 [v] = some v := rfl
theorem bytesG_map : ∀ l : List Nat, (∀ x ∈ l, x < 256) → bytesG (l.map byteG) = some (l.map UInt8.ofNat)
  | [], _ => rfl
  | a :: l, h => by
    have h1 := h a (by simp)
    have h2 := bytesG_map l fun x hx => h x (by simp [hx])
    simp only [List.map_cons, byteG, bytesG] at h2 ⊢
    rw [if_pos (by omega)]
    have : (fun n : Nat => GV.i .u8 (n : Int)) = byteG := rfl
    rw [h2]
    simp
theorem loop10 : ∀ (m n : Nat) (done : List Nat), n < 18446744073709551616 → done.length + m < 1000 →
    TT.lim 10 [.i .u64 n, .l ((done ++ List.replicate m 0).map byteG), .i .i64 ((done.length + m : Nat) : Int), .i .i64 done.length] = some [.i .i64 0, .l ((done ++ vraw m n).map byteG)]
  | 0, n, done, hn, hd => by
    refine tree_lim rfl rfl ?_
    simp [vraw]
  | m + 1, n, done, hn, hd => by
    have hlt : (done.length : Int) < ((done.length + (m + 1) : Nat) : Int) := by omega
    have hw := wrap64 (n := (done.length : Int) + 1) (by omega) (by omega)
    have hw8 := wrapu8 (n := ((n % 128 : Nat) : Int)) (by omega) (by omega)
    have h7 : shG .shr .u64 (n : Int) 7 = some (.i .u64 ((n / 128 : Nat) : Int)) := shr_u64
    have ha := and127 n hn
    have ho := or128 (n % 128) (by omega)
    have ih := loop10 m (n / 128) (done ++ [n % 128 + 128]) (by omega) (by simp; omega)
    have hlen : (done ++ [n % 128 + 128]).length + m = done.length + (m + 1) := by simp; omega
    rw [hlen] at ih
    have hl2 : (((done ++ [n % 128 + 128]).length : Nat) : Int) = (done.length : Int) + 1 := by simp
    rw [hl2] at ih
    have hset : ((done ++ List.replicate (m + 1) 0).map byteG).set done.length (byteG (n % 128 + 128)) = (done ++ [n % 128 + 128] ++ List.replicate m 0).map byteG := by
      rw [List.replicate_succ, ← List.map_set, List.set_append_right _ _ (Nat.le_refl _), Nat.sub_self]
      simp
    have hget : ((done ++ List.replicate (m + 1) 0).map byteG)[done.length]? = some (byteG 0) := by
      rw [List.getElem?_map, List.getElem?_append_right (Nat.le_refl _), Nat.sub_self, List.replicate_succ]; rfl
    have hll : ((done ++ List.replicate (m + 1) 0).map byteG).length = done.length + (m + 1) := by simp
    have hv : done ++ vraw (m + 1) n = done ++ [n % 128 + 128] ++ vraw m (n / 128) := by simp [vraw]
    rw [hv]
    generalize hL : (done ++ List.replicate (m + 1) 0).map byteG = L at *
    refine tree_lim rfl rfl ?_
    have hix : (0 : Int) ≤ (done.length : Int) ∧ (done.length : Int) < (L.length : Int) := by rw [hll]; omega
    have hob : GV.i IntKind.u8 ((n % 128 + 128 : Nat) : Int) = byteG (n % 128 + 128) := rfl
    have hset' : L.set done.length (GV.i IntKind.u8 ((n % 128 + 128 : Nat) : Int)) = (done ++ [n % 128 + 128] ++ List.replicate m 0).map byteG := hset
    generalize (done ++ [n % 128 + 128] ++ List.replicate m 0).map byteG = L2 at ih hset'
    generalize (done ++ [n % 128 + 128] ++ vraw m (n / 128)).map byteG = L3 at ih ⊢
    generalize ((n / 128 : Nat) : Int) = q at h7 ih
    generalize ((n % 128 + 128 : Nat) : Int) = z at ho hset'
    generalize ((n % 128 : Nat) : Int) = rr at ha hw8 ho
    generalize ((done.length + (m + 1) : Nat) : Int) = N at hlt ih ⊢
    simp [hlt, ha, hw8, ho, hix, hget, h7, hw, hset', ih]

theorem vraw_len : ∀ m n, (vraw m n).length = m
  | 0, _ => rfl
  | m + 1, n => by simp [vraw, vraw_len m]
theorem vraw_lt : ∀ m n, ∀ x ∈ vraw m n, x < 256
  | 0, _, x, h => by simp [vraw] at h
  | m + 1, n, x, h => by
    simp only [vraw, List.mem_cons] at h
    rcases h with rfl | h
    · omega
    · exact vraw_lt m _ x h
/-- The last byte without its high bit: as numbers are written. -/
theorem vraw_put : ∀ (s n : Nat), vsize n = s + 1 → ∃ x, (vraw (s + 1) n)[s]? = some x ∧ ((vraw (s + 1) n).set s (x % 128)).map UInt8.ofNat = vput n
  | 0, n, h => by
    have hn : n < 128 := by
      by_cases hn : n < 128
      · exact hn
      · rw [vsize_ge hn] at h; have := vsize_pos (n / 128); omega
    refine ⟨n % 128 + 128, by simp [vraw], ?_⟩
    rw [vput_lt hn]
    simp [vraw]
    rw [Nat.mod_eq_of_lt hn]
  | s + 1, n, h => by
    have hn : ¬ n < 128 := by
      intro hn
      unfold vsize at h; rw [vput_lt hn] at h; simp at h
    rw [vsize_ge hn] at h
    obtain ⟨x, h1, h2⟩ := vraw_put s (n / 128) (by omega)
    refine ⟨x, by simp only [vraw, List.getElem?_cons_succ] at h1 ⊢; exact h1, ?_⟩
    rw [vput_ge hn, ← h2]
    simp [vraw]
theorem str_map (l : List Nat) (h : ∀ x ∈ l, x < 256) : bytesG (l.map byteG) = some (l.map UInt8.ofNat) := bytesG_map l h
theorem put7 (n : Nat) (hn : n < 18446744073709551616) : TT.lim 7 [.i .u64 n] = some [.s (vput n)] := by
  have h8 := size8 n hn
  have hp := vsize_pos n
  have hs := vsize64 hn
  obtain ⟨s, hs1⟩ : ∃ s, vsize n = s + 1 := ⟨vsize n - 1, by omega⟩
  obtain ⟨x, h1, h2⟩ := vraw_put s n hs1
  rw [hs1] at h8
  have h10 : TT.lim 10 [.i .u64 n, .l ((List.replicate (s + 1) 0).map byteG), .i .i64 ((s + 1 : Nat) : Int), .i .i64 0] = some [.i .i64 0, .l ((vraw (s + 1) n).map byteG)] := by
    have := loop10 (s + 1) n [] hn (by simp; omega)
    simpa using this
  have hr : (List.replicate (s + 1) 0).map byteG = List.replicate (s + 1) (GV.i .u8 0) := by rw [List.map_replicate]; rfl
  rw [hr] at h10
  have hx : x < 256 := vraw_lt _ _ x (List.mem_of_getElem? h1)
  have ha := and127_8 x hx
  have hget : ((vraw (s + 1) n).map byteG)[s]? = some (byteG x) := by rw [List.getElem?_map, h1]; rfl
  have hset : ((vraw (s + 1) n).map byteG).set s (GV.i .u8 ((x % 128 : Nat) : Int)) = ((vraw (s + 1) n).set s (x % 128)).map byteG := (List.map_set (f := byteG) (l := vraw (s + 1) n) (i := s) (a := x % 128)).symm
  have hb := bytesG_map ((vraw (s + 1) n).set s (x % 128)) (fun y hy => by
    rcases List.mem_or_eq_of_mem_set hy with hy | rfl
    · exact vraw_lt _ _ y hy
    · omega)
  rw [h2] at hb
  have hlen : (((vraw (s + 1) n).set s (x % 128)).map byteG).length = s + 1 := by simp [vraw_len]
  have hlr : (List.replicate (s + 1) (GV.i .u8 0)).length = s + 1 := by simp
  have hl1 : ((vraw (s + 1) n).map byteG).length = s + 1 := by simp [vraw_len]
  generalize ((vraw (s + 1) n).set s (x % 128)).map byteG = L3 at hset hb hlen
  generalize (vraw (s + 1) n).map byteG = L2 at h10 hget hset hl1
  generalize hrep : List.replicate (s + 1) (GV.i .u8 0) = L1 at h10 hlr
  refine fn_lim rfl rfl ?_ rfl
  have hw := wrap64 (n := (s : Int)) (by omega) (by omega)
  have hcast : ((s + 1 : Nat) : Int) = (s : Int) + 1 := by omega
  rw [hcast] at h8 h10
  have hc1 : (0 : Int) ≤ (s : Int) + 1 ∧ (s : Int) + 1 ≤ 281474976710656 ∧ (s : Int) + 1 ≤ 1152921504606846976 := by omega
  have hc2 : ((s : Int) + 1).toNat = s + 1 := by omega
  have hlt : (s : Int) < (s : Int) + 1 := by omega
  have hs2 : (s : Int) + 1 - 1 = (s : Int) := by omega
  generalize hM : ((x % 128 : Nat) : Int) = M at ha hset
  have hxx : byteG x = .i .u8 x := rfl
  have h48 : s + 1 ≤ 281474976710656 := by omega
  have hg2 : L2[s]'(by omega) = byteG x := by have := hget; rw [List.getElem?_eq_getElem (by omega)] at this; exact Option.some.inj this
  simp [h8, hc1, hc2, hrep, hlr, h10, hl1, hs2, hw, hlt, hget, hg2, ha, hset, hxx, hlen, hb, h48, GV.elemOk]
end C
end Go.Proofs.YtamcdgfjjeldeaaGreatDoor
