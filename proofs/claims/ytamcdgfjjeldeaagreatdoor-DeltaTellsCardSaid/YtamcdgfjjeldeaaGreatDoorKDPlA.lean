/- Tables, told of trees: entries, keys, rows. -/
import Derived.Test.YtamcdgfjjeldeaaGreatDoorKDT
import Derived.Test.YtamcdgfjjeldeaaGreatDoorAbsPl
namespace Go.Proofs.YtamcdgfjjeldeaaGreatDoor
open Go Go.Abs
set_option linter.unusedSimpArgs false
set_option linter.unusedVariables false
set_option maxRecDepth 100000
namespace D
/-- An entry: key and value. A row: its entries and its number. -/
abbrev Ent := List UInt8 × List UInt8
abbrev Row := List Ent × Int
def ent (x : Ent) : GV := .g [.s x.1, .s x.2]
def row (r : Row) : GV := .g [.l (r.1.map ent), .i .u64 r.2]
@[simp] theorem ent_cells (x : Ent) : (ent x).cells = [.s x.1, .s x.2] := rfl
@[simp] theorem row_cells (r : Row) : (row r).cells = [.l (r.1.map ent), .i .u64 r.2] := rfl
@[simp] theorem ent_scalar (x : Ent) : (ent x).scalar = false := rfl
@[simp] theorem row_scalar (r : Row) : (row r).scalar = false := rfl
theorem ent_fold (x : Ent) : GV.g [.s x.1, .s x.2] = ent x := rfl
theorem row_fold (d : List Ent) (n : Int) : GV.g [.l (d.map ent), .i .u64 n] = row (d, n) := rfl
/-- Texts and lists of no more than any machine bears. -/
def Ents (d : List Ent) : Prop := d.length ≤ 140737488351232 ∧ ∀ x ∈ d, x.1.length ≤ 140737488351232 ∧ x.2.length ≤ 140737488351232
def Rows (l : List Row) : Prop := l.length ≤ 140737488351232 ∧ ∀ r ∈ l, Ents r.1 ∧ 0 ≤ r.2 ∧ r.2 < 18446744073709551616

/-! ### Few entries -/
def fewE (x : Ent) : Bool := decide (x.1.length + x.2.length ≤ 600)
theorem loop5 (d : List Ent) (hd : Ents d) : ∀ m i : Nat, i + m = d.length → TT.lim 5 [.l (d.map ent), .i .i64 d.length, .i .i64 i] = some (if (d.drop i).all fewE = true then [.i .i64 1, .l (d.map ent)] else [.i .i64 0])
  | 0, i, hi => by
    have h0 : d.drop i = [] := List.drop_eq_nil_of_le (by omega)
    refine tree_lim rfl rfl ?_
    have h : ¬ ((i : Int) < d.length) := by omega
    simp [h, h0]
  | m + 1, i, hi => by
    have hlt : i < d.length := by omega
    have ih : TT.lim 5 [.l (d.map ent), .i .i64 d.length, .i .i64 ((i : Int) + 1)] = _ := loop5 d hd m (i + 1) (by omega)
    refine tree_lim rfl rfl ?_
    have h : ((i : Int) < d.length) := by omega
    have hw := wrap64 (n := (i : Int) + 1) (by omega) (by have := hd.1; omega)
    have hx := hd.2 d[i] (List.getElem_mem hlt)
    have hw2 := wrap64 (n := (d[i].1.length : Int) + (d[i].2.length : Int)) (by omega) (by omega)
    have hda : (d.drop i).all fewE = (fewE d[i] && (d.drop (i + 1)).all fewE) := by rw [List.drop_eq_getElem_cons hlt, List.all_cons]
    by_cases hf : (600 : Int) < (d[i].1.length : Int) + (d[i].2.length : Int)
    · have : fewE d[i] = false := by unfold fewE; simp; omega
      simp [h, hlt, hw2, hf, hda, this]
    · have : fewE d[i] = true := by unfold fewE; simp; omega
      rw [hda, this, Bool.true_and]
      simp [h, hlt, hw, hw2, hf, ih]
def few12 (d : List Ent) : Bool := d.all fewE && decide (d.length ≤ 40)
theorem few4 (d : List Ent) (hd : Ents d) : TT.lim 4 [.l (d.map ent)] = some [.b (few12 d)] := by
  refine fn_lim rfl rfl ?_ rfl
  have h5 : TT.lim 5 [.l (d.map ent), .i .i64 d.length, .i .i64 0] = _ := loop5 d hd d.length 0 (by omega)
  rw [List.drop_zero] at h5
  cases hc : d.all fewE with
  | false => rw [hc] at h5; simp [h5, few12, hc]
  | true =>
    rw [hc] at h5; simp only [if_true] at h5
    have : (decide ((d.length : Int) ≤ 40)) = decide (d.length ≤ 40) := by rw [Bool.eq_iff_iff]; simp; omega
    simp [h5, few12, hc, this]

/-! ### Numbers, as they are written -/
def vput (n : Nat) : List UInt8 := if n < 128 then [UInt8.ofNat n] else UInt8.ofNat (n % 128 + 128) :: vput (n / 128)
termination_by n
decreasing_by omega
theorem vput_lt {n : Nat} (h : n < 128) : vput n = [UInt8.ofNat n] := by rw [vput, if_pos h]
theorem vput_ge {n : Nat} (h : ¬ n < 128) : vput n = UInt8.ofNat (n % 128 + 128) :: vput (n / 128) := by rw [vput, if_neg h]
theorem u8_inj {a b : Nat} (ha : a < 256) (hb : b < 256) (h : UInt8.ofNat a = UInt8.ofNat b) : a = b := by
  have := congrArg UInt8.toNat h
  simp at this
  omega
/-- No number's bytes begin another's. -/
theorem vput_inj : ∀ (n m : Nat) (x y : List UInt8), vput n ++ x = vput m ++ y → n = m ∧ x = y := by
  intro n
  induction n using Nat.strongRecOn with
  | _ n ih =>
    intro m x y h
    by_cases hn : n < 128 <;> by_cases hm : m < 128
    · rw [vput_lt hn, vput_lt hm] at h
      simp only [List.cons_append, List.nil_append, List.cons.injEq] at h
      exact ⟨u8_inj (by omega) (by omega) h.1, h.2⟩
    · rw [vput_lt hn, vput_ge hm] at h
      simp only [List.cons_append, List.nil_append, List.cons.injEq] at h
      have := u8_inj (by omega) (by omega) h.1
      omega
    · rw [vput_ge hn, vput_lt hm] at h
      simp only [List.cons_append, List.nil_append, List.cons.injEq] at h
      have := u8_inj (by omega) (by omega) h.1
      omega
    · rw [vput_ge hn, vput_ge hm] at h
      simp only [List.cons_append, List.cons.injEq] at h
      have h1 := u8_inj (by omega) (by omega) h.1
      obtain ⟨h2, h3⟩ := ih (n / 128) (by omega) (m / 128) x y h.2
      exact ⟨by omega, h3⟩
def vsize (n : Nat) : Nat := (vput n).length
theorem shr7 {n : Int} (h0 : 0 ≤ n) : n.fdiv (2 ^ (7 : Nat)) = n / 128 := by
  rw [Int.fdiv_eq_ediv_of_nonneg _ (by decide)]; rfl
theorem shr_u64 {n : Nat} : shG .shr .u64 (n : Int) 7 = some (.i .u64 ((n / 128 : Nat) : Int)) := by
  have : ((n : Int)).fdiv (2 ^ (7 : Nat)) = ((n / 128 : Nat) : Int) := by rw [shr7 (by omega)]; omega
  simp [shG, IntKind.bits]
  exact this
theorem vsize_pos (n : Nat) : 0 < vsize n := by unfold vsize; rw [vput]; split <;> simp
theorem vsize_ge {n : Nat} (h : ¬ n < 128) : vsize n = vsize (n / 128) + 1 := by unfold vsize; rw [vput_ge h]; rfl
theorem vsize_le : ∀ (k n : Nat), 0 < k → n < 128 ^ k → vsize n ≤ k
  | 0, _, h, _ => by omega
  | k + 1, n, _, h => by
    by_cases hn : n < 128
    · unfold vsize; rw [vput_lt hn]; simp
    · rw [vsize_ge hn]
      cases k with
      | zero => simp at h; omega
      | succ k =>
        have : n / 128 < 128 ^ (k + 1) := by rw [Nat.pow_succ] at h; omega
        have := vsize_le (k + 1) (n / 128) (by omega) this
        omega
theorem vsize64 {n : Nat} (h : n < 18446744073709551616) : vsize n ≤ 10 := vsize_le 10 n (by omega) (by omega)
theorem loop9 : ∀ (n s : Nat), s + vsize n ≤ 1000 → n < 18446744073709551616 → TT.lim 9 [.i .u64 n, .i .i64 s] = some [.i .i64 0, .i .i64 ((s + vsize n - 1 : Nat) : Int)] := by
  intro n
  induction n using Nat.strongRecOn with
  | _ n ih =>
    intro s hs hn
    refine tree_lim rfl rfl ?_
    by_cases h : n < 128
    · have h' : ¬ (128 : Int) ≤ n := by omega
      simp [h', vsize, vput_lt h]
    · have h' : (128 : Int) ≤ n := by omega
      have hv := vsize_ge h
      have hp := vsize_pos (n / 128)
      have hw := wrap64 (n := (s : Int) + 1) (by omega) (by omega)
      have ih' : TT.lim 9 [.i .u64 ((n / 128 : Nat) : Int), .i .i64 ((s : Int) + 1)] = _ := ih (n / 128) (by omega) (s + 1) (by omega) (by omega)
      have hn' : s + vsize n - 1 = s + 1 + vsize (n / 128) - 1 := by omega
      rw [hn']
      have h7 : shG .shr .u64 (n : Int) 7 = some (.i .u64 ((n / 128 : Nat) : Int)) := shr_u64
      generalize ((n / 128 : Nat) : Int) = q at h7 ih'
      simp [h', hw, h7, ih']
theorem size8 (n : Nat) (hn : n < 18446744073709551616) : TT.lim 8 [.i .u64 n] = some [.i .i64 (vsize n)] := by
  have hp := vsize_pos n
  have h9 : TT.lim 9 [.i .u64 n, .i .i64 1] = _ := loop9 n 1 (by have := vsize64 hn; omega) hn
  rw [show 1 + vsize n - 1 = vsize n by omega] at h9
  refine fn_lim rfl rfl ?_ rfl
  simp [h9]
/-- The bytes of a number, each with its high bit set. -/
def vraw : Nat → Nat → List Nat
  | 0, _ => []
  | k + 1, n => (n % 128 + 128) :: vraw k (n / 128)
def byteG (n : Nat) : GV := .i .u8 n
theorem and127 (n : Nat) (hn : n < 18446744073709551616) : intG .and .u64 (n : Int) 127 = some (.i .u64 ((n % 128 : Nat) : Int)) := by
  have h1 : ((BitVec.ofInt 64 (n : Int) &&& BitVec.ofInt 64 127).toNat : Nat) = n % 128 := by
    rw [BitVec.toNat_and, BitVec.toNat_ofInt, BitVec.toNat_ofInt]
    have e1 : ((n : Int) % ((2 ^ 64 : Nat) : Int)).toNat = n := by omega
    have e2 : ((127 : Int) % ((2 ^ 64 : Nat) : Int)).toNat = 2 ^ 7 - 1 := by decide
    rw [e1, e2, Nat.and_two_pow_sub_one_eq_mod]
  show some (GV.i .u64 (IntKind.u64.wrap (((BitVec.ofInt 64 (n : Int) &&& BitVec.ofInt 64 127).toNat : Nat) : Int))) = _
  rw [h1, wrapu64 (by omega) (by omega)]
theorem and127_8 (n : Nat) (hn : n < 256) : intG .and .u8 (n : Int) 127 = some (.i .u8 ((n % 128 : Nat) : Int)) := by
  have : ∀ x : Fin 256, IntKind.u8.wrap (((BitVec.ofInt IntKind.u8.bits ((x.val : Nat) : Int) &&& BitVec.ofInt IntKind.u8.bits 127).toNat : Nat) : Int) = ((x.val % 128 : Nat) : Int) := by decide +kernel
  show some (GV.i .u8 _) = some (GV.i .u8 _)
  exact congrArg (fun z => some (GV.i .u8 z)) (this ⟨n, hn⟩)
theorem or128 (n : Nat) (hn : n < 128) : intG .or .u8 (n : Int) 128 = some (.i .u8 ((n + 128 : Nat) : Int)) := by
  have : ∀ x : Fin 128, IntKind.u8.wrap (((BitVec.ofInt IntKind.u8.bits ((x.val : Nat) : Int) ||| BitVec.ofInt IntKind.u8.bits 128).toNat : Nat) : Int) = ((x.val + 128 : Nat) : Int) := by decide +kernel
  show some (GV.i .u8 _) = some (GV.i .u8 _)
  exact congrArg (fun z => some (GV.i .u8 z)) (this ⟨n, hn⟩)
theorem wrapu8 {n : Int} (h0 : 0 ≤ n) (h1 : n < 256) : IntKind.u8.wrap n = n := by
  have : IntKind.u8.wrap n = n % 256 := by simp [IntKind.wrap, IntKind.signed, IntKind.bits]
  rw [this]; omega
@[simp] theorem byteG_cells (n : Nat) : (byteG n).cells = [byteG n] := rfl
@[simp] theorem byteG_scalar (n : Nat) : (byteG n).scalar = true := rfl
@[simp] theorem byteG_put (n : Nat) (v : GV) : (byteG n).put 0 [v] = some v := rfl
theorem bytesG_map : ∀ l : List Nat, (∀ x ∈ l, x < 256) → bytesG (l.map byteG) = some (l.map UInt8.ofNat)
  | [], _ => rfl
  | a :: l, h => by
    have h1 := h a (by simp)
    have h2 := bytesG_map l fun x hx => h x (by simp [hx])
    simp only [List.map_cons, byteG, bytesG] at h2 ⊢
    rw [if_pos (by omega)]
    have : (fun n : Nat => GV.i .u8 (n : Int)) = byteG := rfl
    rw [h2]
    simp
theorem loop10 : ∀ (m n : Nat) (done : List Nat), n < 18446744073709551616 → done.length + m < 1000 →
    TT.lim 10 [.i .u64 n, .l ((done ++ List.replicate m 0).map byteG), .i .i64 ((done.length + m : Nat) : Int), .i .i64 done.length] = some [.i .i64 0, .l ((done ++ vraw m n).map byteG)]
  | 0, n, done, hn, hd => by
    refine tree_lim rfl rfl ?_
    simp [vraw]
  | m + 1, n, done, hn, hd => by
    have hlt : (done.length : Int) < ((done.length + (m + 1) : Nat) : Int) := by omega
    have hw := wrap64 (n := (done.length : Int) + 1) (by omega) (by omega)
    have hw8 := wrapu8 (n := ((n % 128 : Nat) : Int)) (by omega) (by omega)
    have h7 : shG .shr .u64 (n : Int) 7 = some (.i .u64 ((n / 128 : Nat) : Int)) := shr_u64
    have ha := and127 n hn
    have ho := or128 (n % 128) (by omega)
    have ih := loop10 m (n / 128) (done ++ [n % 128 + 128]) (by omega) (by simp; omega)
    have hlen : (done ++ [n % 128 + 128]).length + m = done.length + (m + 1) := by simp; omega
    rw [hlen] at ih
    have hl2 : (((done ++ [n % 128 + 128]).length : Nat) : Int) = (done.length : Int) + 1 := by simp
    rw [hl2] at ih
    have hset : ((done ++ List.replicate (m + 1) 0).map byteG).set done.length (byteG (n % 128 + 128)) = (done ++ [n % 128 + 128] ++ List.replicate m 0).map byteG := by
      rw [List.replicate_succ, ← List.map_set, List.set_append_right _ _ (Nat.le_refl _), Nat.sub_self]
      simp
    have hget : ((done ++ List.replicate (m + 1) 0).map byteG)[done.length]? = some (byteG 0) := by
      rw [List.getElem?_map, List.getElem?_append_right (Nat.le_refl _), Nat.sub_self, List.replicate_succ]; rfl
    have hll : ((done ++ List.replicate (m + 1) 0).map byteG).length = done.length + (m + 1) := by simp
    have hv : done ++ vraw (m + 1) n = done ++ [n % 128 + 128] ++ vraw m (n / 128) := by simp [vraw]
    rw [hv]
    generalize hL : (done ++ List.replicate (m + 1) 0).map byteG = L at *
    refine tree_lim rfl rfl ?_
    have hix : (0 : Int) ≤ (done.length : Int) ∧ (done.length : Int) < (L.length : Int) := by rw [hll]; omega
    have hob : GV.i IntKind.u8 ((n % 128 + 128 : Nat) : Int) = byteG (n % 128 + 128) := rfl
    have hset' : L.set done.length (GV.i IntKind.u8 ((n % 128 + 128 : Nat) : Int)) = (done ++ [n % 128 + 128] ++ List.replicate m 0).map byteG := hset
    generalize (done ++ [n % 128 + 128] ++ List.replicate m 0).map byteG = L2 at ih hset'
    generalize (done ++ [n % 128 + 128] ++ vraw m (n / 128)).map byteG = L3 at ih ⊢
    generalize ((n / 128 : Nat) : Int) = q at h7 ih
    generalize ((n % 128 + 128 : Nat) : Int) = z at ho hset'
    generalize ((n % 128 : Nat) : Int) = rr at ha hw8 ho
    generalize ((done.length + (m + 1) : Nat) : Int) = N at hlt ih ⊢
    simp [hlt, ha, hw8, ho, hix, hget, h7, hw, hset', ih]

theorem vraw_len : ∀ m n, (vraw m n).length = m
  | 0, _ => rfl
  | m + 1, n => by simp [vraw, vraw_len m]
theorem vraw_lt : ∀ m n, ∀ x ∈ vraw m n, x < 256
  | 0, _, x, h => by simp [vraw] at h
  | m + 1, n, x, h => by
    simp only [vraw, List.mem_cons] at h
    rcases h with rfl | h
    · omega
    · exact vraw_lt m _ x h
/-- The last byte without its high bit: as numbers are written. -/
theorem vraw_put : ∀ (s n : Nat), vsize n = s + 1 → ∃ x, (vraw (s + 1) n)[s]? = some x ∧ ((vraw (s + 1) n).set s (x % 128)).map UInt8.ofNat = vput n
  | 0, n, h => by
    have hn : n < 128 := by
      by_cases hn : n < 128
      · exact hn
      · rw [vsize_ge hn] at h; have := vsize_pos (n / 128); omega
    refine ⟨n % 128 + 128, by simp [vraw], ?_⟩
    rw [vput_lt hn]
    simp [vraw]
    rw [Nat.mod_eq_of_lt hn]
  | s + 1, n, h => by
    have hn : ¬ n < 128 := by
      intro hn
      unfold vsize at h; rw [vput_lt hn] at h; simp at h
    rw [vsize_ge hn] at h
    obtain ⟨x, h1, h2⟩ := vraw_put s (n / 128) (by omega)
    refine ⟨x, by simp only [vraw, List.getElem?_cons_succ] at h1 ⊢; exact h1, ?_⟩
    rw [vput_ge hn, ← h2]
    simp [vraw]
theorem str_map (l : List Nat) (h : ∀ x ∈ l, x < 256) : bytesG (l.map byteG) = some (l.map UInt8.ofNat) := bytesG_map l h
theorem put7 (n : Nat) (hn : n < 18446744073709551616) : TT.lim 7 [.i .u64 n] = some [.s (vput n)] := by
  have h8 := size8 n hn
  have hp := vsize_pos n
  have hs := vsize64 hn
  obtain ⟨s, hs1⟩ : ∃ s, vsize n = s + 1 := ⟨vsize n - 1, by omega⟩
  obtain ⟨x, h1, h2⟩ := vraw_put s n hs1
  rw [hs1] at h8
  have h10 : TT.lim 10 [.i .u64 n, .l ((List.replicate (s + 1) 0).map byteG), .i .i64 ((s + 1 : Nat) : Int), .i .i64 0] = some [.i .i64 0, .l ((vraw (s + 1) n).map byteG)] := by
    have := loop10 (s + 1) n [] hn (by simp; omega)
    simpa using this
  have hr : (List.replicate (s + 1) 0).map byteG = List.replicate (s + 1) (GV.i .u8 0) := by rw [List.map_replicate]; rfl
  rw [hr] at h10
  have hx : x < 256 := vraw_lt _ _ x (List.mem_of_getElem? h1)
  have ha := and127_8 x hx
  have hget : ((vraw (s + 1) n).map byteG)[s]? = some (byteG x) := by rw [List.getElem?_map, h1]; rfl
  have hset : ((vraw (s + 1) n).map byteG).set s (GV.i .u8 ((x % 128 : Nat) : Int)) = ((vraw (s + 1) n).set s (x % 128)).map byteG := (List.map_set (f := byteG) (l := vraw (s + 1) n) (i := s) (a := x % 128)).symm
  have hb := bytesG_map ((vraw (s + 1) n).set s (x % 128)) (fun y hy => by
    rcases List.mem_or_eq_of_mem_set hy with hy | rfl
    · exact vraw_lt _ _ y hy
    · omega)
  rw [h2] at hb
  have hlen : (((vraw (s + 1) n).set s (x % 128)).map byteG).length = s + 1 := by simp [vraw_len]
  have hlr : (List.replicate (s + 1) (GV.i .u8 0)).length = s + 1 := by simp
  have hl1 : ((vraw (s + 1) n).map byteG).length = s + 1 := by simp [vraw_len]
  generalize ((vraw (s + 1) n).set s (x % 128)).map byteG = L3 at hset hb hlen
  generalize (vraw (s + 1) n).map byteG = L2 at h10 hget hset hl1
  generalize hrep : List.replicate (s + 1) (GV.i .u8 0) = L1 at h10 hlr
  refine fn_lim rfl rfl ?_ rfl
  have hw := wrap64 (n := (s : Int)) (by omega) (by omega)
  have hcast : ((s + 1 : Nat) : Int) = (s : Int) + 1 := by omega
  rw [hcast] at h8 h10
  have hc1 : (0 : Int) ≤ (s : Int) + 1 ∧ (s : Int) + 1 ≤ 281474976710656 ∧ (s : Int) + 1 ≤ 1152921504606846976 := by omega
  have hc2 : ((s : Int) + 1).toNat = s + 1 := by omega
  have hlt : (s : Int) < (s : Int) + 1 := by omega
  have hs2 : (s : Int) + 1 - 1 = (s : Int) := by omega
  generalize hM : ((x % 128 : Nat) : Int) = M at ha hset
  have hxx : byteG x = .i .u8 x := rfl
  have h48 : s + 1 ≤ 281474976710656 := by omega
  have hg2 : L2[s]'(by omega) = byteG x := by have := hget; rw [List.getElem?_eq_getElem (by omega)] at this; exact Option.some.inj this
  simp [h8, hc1, hc2, hrep, hlr, h10, hl1, hs2, hw, hlt, hget, hg2, ha, hset, hxx, hlen, hb, h48, GV.elemOk]
theorem byteGs_append (a b : List UInt8) : byteGs (a ++ b) = byteGs a ++ byteGs b := by simp [byteGs]
@[simp] theorem byteGs_length (a : List UInt8) : (byteGs a).length = a.length := by simp [byteGs]
theorem byteGs_ok (a : List UInt8) : (byteGs a).all (GV.elemOk 1) = true := by
  rw [List.all_eq_true]
  intro x hx
  obtain ⟨b, _, rfl⟩ := List.mem_map.1 hx
  rfl
theorem bytesG_byteGs : ∀ a : List UInt8, bytesG (byteGs a) = some a
  | [] => rfl
  | x :: a => by
    have ih := bytesG_byteGs a
    simp only [byteGs, List.map_cons, bytesG] at ih ⊢
    have := x.toNat_lt
    rw [if_pos (by omega), ih]
    simp

def entPut (x : Ent) : List UInt8 := vput x.1.length ++ x.1 ++ vput x.2.length ++ x.2
def keyF (d : List Ent) : List UInt8 := vput d.length ++ d.flatMap entPut
theorem vput_len {n : Nat} (h : n < 18446744073709551616) : (vput n).length ≤ 10 := vsize64 h
theorem entput12 (x : Ent) (h1 : x.1.length ≤ 140737488351232) (h2 : x.2.length ≤ 140737488351232) : TT.lim 12 [ent x] = some [.s (entPut x)] := by
  have k1 := put7 x.1.length (by omega)
  have k2 := put7 x.2.length (by omega)
  have l1 := vput_len (n := x.1.length) (by omega)
  have l2 := vput_len (n := x.2.length) (by omega)
  have w1 := wrapu64 (n := (x.1.length : Int)) (by omega) (by omega)
  have w2 := wrapu64 (n := (x.2.length : Int)) (by omega) (by omega)
  refine fn_lim rfl rfl ?_ rfl
  have c1 : ((vput x.1.length).length : Int) + (x.1.length : Int) ≤ 9223372036854775807 := by omega
  have c2 : ((vput x.1.length).length : Int) + ((x.1.length : Int) + ((vput x.2.length).length : Int)) ≤ 9223372036854775807 := by omega
  have c3 : ((vput x.1.length).length : Int) + ((x.1.length : Int) + (((vput x.2.length).length : Int) + (x.2.length : Int))) ≤ 9223372036854775807 := by omega
  simp [w1, w2, k1, k2, c1, c2, c3, entPut, Int.add_assoc]
theorem entPut_len {x : Ent} (h : fewE x = true) : (entPut x).length ≤ 620 := by
  unfold fewE at h
  simp only [decide_eq_true_iff] at h
  have l1 := vput_len (n := x.1.length) (by omega)
  have l2 := vput_len (n := x.2.length) (by omega)
  simp only [entPut, List.length_append]
  omega
theorem flat_len620 : ∀ d : List Ent, d.all fewE = true → (d.flatMap entPut).length ≤ 620 * d.length
  | [], _ => by simp
  | x :: d, h => by
    rw [List.all_cons, Bool.and_eq_true] at h
    have := entPut_len h.1
    have := flat_len620 d h.2
    simp only [List.flatMap_cons, List.length_append, List.length_cons]
    omega
theorem loop11 (d : List Ent) (hf : d.all fewE = true) (hl : d.length ≤ 40) : ∀ (m i : Nat) (acc : List UInt8), i + m = d.length → acc.length ≤ 10 + 620 * i →
    TT.lim 11 [.l (d.map ent), .i .i64 d.length, .i .i64 i, .l (byteGs acc)] = some [.i .i64 0, .l (byteGs (acc ++ (d.drop i).flatMap entPut))]
  | 0, i, acc, hi, ha => by
    have h0 : d.drop i = [] := List.drop_eq_nil_of_le (by omega)
    refine tree_lim rfl rfl ?_
    have h : ¬ ((i : Int) < d.length) := by omega
    simp [h, h0]
  | m + 1, i, acc, hi, ha => by
    have hlt : i < d.length := by omega
    have hx := List.all_eq_true.1 hf d[i] (List.getElem_mem hlt)
    have hx1 := hx
    unfold fewE at hx1
    simp only [decide_eq_true_iff] at hx1
    have hp := entput12 d[i] (by omega) (by omega)
    have hpl := entPut_len hx
    have ih : TT.lim 11 [.l (d.map ent), .i .i64 d.length, .i .i64 ((i : Int) + 1), .l (byteGs (acc ++ entPut d[i]))] = _ := loop11 d hf hl m (i + 1) (acc ++ entPut d[i]) (by omega) (by simp; omega)
    rw [byteGs_append] at ih
    have hd : (d.drop i).flatMap entPut = entPut d[i] ++ (d.drop (i + 1)).flatMap entPut := by rw [List.drop_eq_getElem_cons hlt, List.flatMap_cons]
    rw [hd, ← List.append_assoc]
    refine tree_lim rfl rfl ?_
    have h : ((i : Int) < d.length) := by omega
    have hw := wrap64 (n := (i : Int) + 1) (by omega) (by omega)
    have hok := byteGs_ok (entPut d[i])
    have hb : 2 * (acc.length + (entPut d[i]).length) ≤ 281474976710656 ∧ acc.length + (entPut d[i]).length ≤ 281474976710656 := by omega
    have he : GV.g [GV.s d[i].1, GV.s d[i].2] = ent d[i] := rfl
    simp [-List.all_eq_true, h, hlt, he, hp, hok, hb, hw, ih]
theorem key6 (d : List Ent) (hf : few12 d = true) : TT.lim 6 [.l (d.map ent)] = some [.s (keyF d)] := by
  unfold few12 at hf
  rw [Bool.and_eq_true, decide_eq_true_iff] at hf
  have k := put7 d.length (by omega)
  have l1 := vput_len (n := d.length) (by omega)
  have w1 := wrapu64 (n := (d.length : Int)) (by omega) (by omega)
  have h11 : TT.lim 11 [.l (d.map ent), .i .i64 d.length, .i .i64 0, .l (byteGs (vput d.length))] = _ := loop11 d hf.1 hf.2 d.length 0 (vput d.length) (by omega) (by omega)
  rw [List.drop_zero] at h11
  have hb : 2 * (vput d.length).length ≤ 281474976710656 ∧ (vput d.length).length ≤ 281474976710656 := by omega
  have hok := byteGs_ok (vput d.length)
  have hfl := flat_len620 d hf.1
  have hc : (vput d.length).length + (List.flatMap entPut d).length ≤ 281474976710656 := by omega
  have hbg := bytesG_byteGs (vput d.length ++ d.flatMap entPut)
  refine fn_lim rfl rfl ?_ rfl
  unfold keyF
  generalize d.flatMap entPut = F at *
  simp [-List.all_eq_true, w1, k, hb, hok, h11, hc, hbg]

/-! ### Keys tell descriptors apart -/
theorem entPut_inj {x y : Ent} {a b : List UInt8} (h : entPut x ++ a = entPut y ++ b) : x = y ∧ a = b := by
  unfold entPut at h
  simp only [List.append_assoc] at h
  obtain ⟨h1, h2⟩ := vput_inj _ _ _ _ h
  obtain ⟨h3, h4⟩ := List.append_inj h2 h1
  obtain ⟨h5, h6⟩ := vput_inj _ _ _ _ h4
  obtain ⟨h7, h8⟩ := List.append_inj h6 h5
  exact ⟨Prod.ext h3 h7, h8⟩
theorem flat_inj : ∀ {d e : List Ent} {a b : List UInt8}, d.length = e.length → d.flatMap entPut ++ a = e.flatMap entPut ++ b → d = e ∧ a = b
  | [], [], a, b, _, h => ⟨rfl, by simpa using h⟩
  | x :: d, y :: e, a, b, hl, h => by
    simp only [List.flatMap_cons, List.append_assoc] at h
    obtain ⟨h1, h2⟩ := entPut_inj h
    obtain ⟨h3, h4⟩ := flat_inj (by simpa using hl) h2
    exact ⟨by rw [h1, h3], h4⟩
  | [], _ :: _, _, _, hl, _ => by simp at hl
  | _ :: _, [], _, _, hl, _ => by simp at hl
theorem keyF_pre {d e : List Ent} {a b : List UInt8} (h : keyF d ++ a = keyF e ++ b) : d = e ∧ a = b := by
  unfold keyF at h
  simp only [List.append_assoc] at h
  obtain ⟨h1, h2⟩ := vput_inj _ _ _ _ h
  exact flat_inj h1 h2
theorem keyF_inj {d e : List Ent} (h : keyF d = keyF e) : d = e := (keyF_pre (a := []) (b := []) (by simpa using h)).1

/-! ### Checks -/
def utfChk (s : List UInt8) (lo hi : Int) : Int := if (s.length : Int) < lo then 13 else if hi < (s.length : Int) then 13 else if Lib.validD s = true then 0 else 11
theorem good20 (s : List UInt8) (h : s.length ≤ 140737488351232) : TT.lim 20 [.s s] = some [.b (Lib.validD s)] := by
  have h21 : TT.lim 21 [.s s] = some [.b (Lib.validD s)] := prim_lim (Ds := Ds) (k := 21) (f := validP) rfl (by simp only [validP]; rw [if_pos (by omega)])
  refine fn_lim rfl rfl ?_ rfl
  simp [h21]
theorem check19 (s : List UInt8) (lo hi : Int) (h : s.length ≤ 140737488351232) : TT.lim 19 [.s s, .i .i64 lo, .i .i64 hi] = some [.i .i64 (utfChk s lo hi)] := by
  have h20 := good20 s h
  refine fn_lim rfl rfl ?_ rfl
  unfold utfChk
  by_cases h1 : (s.length : Int) < lo
  · simp [h1]
  · by_cases h2 : hi < (s.length : Int)
    · simp [h1, h2]
    · cases hv : Lib.validD s <;> rw [hv] at h20 <;> simp [h1, h2, h20, hv]
def entChk (x : Ent) : Int := if utfChk x.1 1 64 ≠ 0 then utfChk x.1 1 64 else utfChk x.2 0 256
theorem entcheck18 (x : Ent) (h1 : x.1.length ≤ 140737488351232) (h2 : x.2.length ≤ 140737488351232) : TT.lim 18 [ent x] = some [.i .i64 (entChk x)] := by
  have k1 := check19 x.1 1 64 h1
  have k2 := check19 x.2 0 256 h2
  refine fn_lim rfl rfl ?_ rfl
  unfold entChk
  by_cases h : utfChk x.1 1 64 = 0
  · simp [k1, h, k2]
  · simp [k1, h]
def chkL : Option (List UInt8) → List Ent → Int
  | _, [] => 0
  | p, x :: xs => if entChk x ≠ 0 then entChk x else match p with
    | none => chkL (some x.1) xs
    | some k => if x.1 = k then 14 else if Op.bytesLess x.1 k = true then 7 else chkL (some x.1) xs
def tagged (r : Int) : List GV := if r = 0 then [.i .i64 1] else [.i .i64 0, .i .i64 r]
def prevK (d : List Ent) (i : Nat) : Option (List UInt8) := if i = 0 then none else (d[i - 1]?).map (·.1)
theorem loop17 (d : List Ent) (hd : Ents d) : ∀ m i : Nat, i + m = d.length → TT.lim 17 [.l (d.map ent), .i .i64 d.length, .i .i64 i] = some (tagged (chkL (prevK d i) (d.drop i)))
  | 0, i, hi => by
    have h0 : d.drop i = [] := List.drop_eq_nil_of_le (by omega)
    refine tree_lim rfl rfl ?_
    have h : ¬ ((i : Int) < d.length) := by omega
    simp [h, h0, chkL, tagged]
  | m + 1, i, hi => by
    have hlt : i < d.length := by omega
    have hx := hd.2 d[i] (List.getElem_mem hlt)
    have hp := entcheck18 d[i] hx.1 hx.2
    have ih : TT.lim 17 [.l (d.map ent), .i .i64 d.length, .i .i64 ((i : Int) + 1)] = _ := loop17 d hd m (i + 1) (by omega)
    have hpk : prevK d (i + 1) = some d[i].1 := by unfold prevK; rw [if_neg (by omega)]; simp [hlt]
    rw [hpk] at ih
    have hdr : d.drop i = d[i] :: d.drop (i + 1) := List.drop_eq_getElem_cons hlt
    rw [hdr]
    refine tree_lim rfl rfl ?_
    have h : ((i : Int) < d.length) := by omega
    have hw := wrap64 (n := (i : Int) + 1) (by omega) (by have := hd.1; omega)
    have he : GV.g [GV.s d[i].1, GV.s d[i].2] = ent d[i] := rfl
    by_cases h1 : entChk d[i] = 0
    rotate_left
    · simp [h, hlt, he, hp, h1, chkL, tagged]
    by_cases h0 : i = 0
    · subst h0
      simp only [Int.natCast_zero, Int.zero_add] at hw ih
      simp [h, hlt, he, hp, h1, chkL, prevK, hw]
      simpa using ih
    · have hi1 : i - 1 < d.length := by omega
      have hpk2 : prevK d i = some d[i - 1].1 := by unfold prevK; rw [if_neg h0]; simp [hi1]
      have hw2 := wrap64 (n := (i : Int) - 1) (by omega) (by have := hd.1; omega)
      have hi0 : ¬ ((i : Int) = 0) := by omega
      have hge : (0 : Int) ≤ (i : Int) - 1 := by omega
      have ht : ((i : Int) - 1).toNat = i - 1 := by omega
      have hnl : (1 : Int) ≤ (i : Int) := by omega
      rw [hpk2]
      by_cases h2 : d[i].1 = d[i - 1].1
      · have h2' : (d[i].1 = d[i - 1].1) = True := eq_true h2
        clear h2
        simp [h, hlt, he, hp, h1, hi0, h0, hw2, ht, hi1, h2', chkL, tagged, hnl]
      · cases h3 : Op.bytesLess d[i].1 d[i - 1].1 with
        | true => simp [h, hlt, he, hp, h1, hi0, h0, hw2, ht, hi1, h2, h3, chkL, tagged, hnl]
        | false => simp [h, hlt, he, hp, h1, hi0, h0, hw2, ht, hi1, h2, h3, chkL, hw, ih, hnl]
def descrChk (d : List Ent) : Int := if d.length = 0 then 12 else if 16 < d.length then 13 else chkL none d
theorem check16 (d : List Ent) (hd : Ents d) : TT.lim 16 [.l (d.map ent)] = some [.i .i64 (descrChk d)] := by
  have h17 : TT.lim 17 [.l (d.map ent), .i .i64 d.length, .i .i64 0] = _ := loop17 d hd d.length 0 (by omega)
  have hpk : prevK d 0 = none := rfl
  rw [hpk, List.drop_zero] at h17
  have w1 := wrapu64 (n := (d.length : Int)) (by omega) (by have := hd.1; omega)
  refine fn_lim rfl rfl ?_ rfl
  unfold descrChk
  by_cases h0 : d.length = 0
  · have h0' : (d.length : Int) = 0 := by omega
    have : d = [] := List.eq_nil_of_length_eq_zero h0
    subst this
    simp [IntKind.wrap, IntKind.signed]
  · have h0' : ¬ (d.length : Int) = 0 := by omega
    by_cases h1 : 16 < d.length
    · have h1' : (16 : Int) < (d.length : Int) := by omega
      simp [w1, h0, h1, h0', h1']
    · have h1' : ¬ (16 : Int) < (d.length : Int) := by omega
      by_cases h2 : chkL none d = 0
      · simp only [tagged, h2, if_true] at h17
        simp [w1, h0, h1, h0', h1', h17, h2]
      · simp only [tagged, h2, if_false] at h17
        simp [w1, h0, h1, h0', h1', h17]
def rowChk (r : Row) : Int := if descrChk r.1 ≠ 0 then descrChk r.1 else if r.2 = 0 then 18 else 0
theorem check15 (r : Row) (hd : Ents r.1) : TT.lim 15 [row r] = some [.i .i64 (rowChk r)] := by
  have k := check16 r.1 hd
  refine fn_lim rfl rfl ?_ rfl
  unfold rowChk
  by_cases h : descrChk r.1 = 0
  · by_cases h2 : r.2 = 0
    · simp [k, h, h2]
    · simp [k, h, h2]
  · simp [k, h]
def fewR (long : Bool) (r : Row) : Bool := decide (r.1.length ≤ 18) && few12 r.1 && (!long || decide ((keyF r.1).length ≤ 100))
theorem loop3 (l : List Row) (hl : Rows l) : ∀ m i : Nat, i + m = l.length → TT.lim 3 [.l (l.map row), .i .i64 l.length, .i .i64 i] = some (if (l.drop i).all (fewR (decide (40 < l.length))) = true then [.i .i64 1, .l (l.map row)] else [.i .i64 0])
  | 0, i, hi => by
    have h0 : l.drop i = [] := List.drop_eq_nil_of_le (by omega)
    refine tree_lim rfl rfl ?_
    have h : ¬ ((i : Int) < l.length) := by omega
    simp [h, h0]
  | m + 1, i, hi => by
    have hlt : i < l.length := by omega
    have hr := hl.2 l[i] (List.getElem_mem hlt)
    have ih : TT.lim 3 [.l (l.map row), .i .i64 l.length, .i .i64 ((i : Int) + 1)] = _ := loop3 l hl m (i + 1) (by omega)
    have hda : (l.drop i).all (fewR (decide (40 < l.length))) = (fewR (decide (40 < l.length)) l[i] && (l.drop (i + 1)).all (fewR (decide (40 < l.length)))) := by rw [List.drop_eq_getElem_cons hlt, List.all_cons]
    rw [hda]
    refine tree_lim rfl rfl ?_
    have h : ((i : Int) < l.length) := by omega
    have hw := wrap64 (n := (i : Int) + 1) (by omega) (by have := hl.1; omega)
    have h4 := few4 l[i].1 hr.1
    by_cases h1 : 18 < l[i].1.length
    · have h1' : (18 : Int) < (l[i].1.length : Int) := by omega
      have : fewR (decide (40 < l.length)) l[i] = false := by unfold fewR; simp; omega
      rw [this]
      simp [h, hlt, h1']
    have h1' : ¬ (18 : Int) < (l[i].1.length : Int) := by omega
    have h1d : l[i].1.length ≤ 18 := by omega
    cases hf : few12 l[i].1 with
    | false =>
      rw [hf] at h4
      have : fewR (decide (40 < l.length)) l[i] = false := by unfold fewR; simp [hf]
      rw [this]
      simp [h, hlt, h1', h4]
    | true =>
      rw [hf] at h4
      have k6 := key6 l[i].1 hf
      by_cases h2 : 40 < l.length
      · have h2' : (40 : Int) < (l.length : Int) := by omega
        by_cases h3 : 100 < (keyF l[i].1).length
        · have h3' : (100 : Int) < ((keyF l[i].1).length : Int) := by omega
          have : fewR (decide (40 < l.length)) l[i] = false := by unfold fewR; simp [h2]; omega
          rw [this]
          simp [h, hlt, h1', h4, h2', k6, h3']
        · have h3' : ¬ (100 : Int) < ((keyF l[i].1).length : Int) := by omega
          have : fewR (decide (40 < l.length)) l[i] = true := by unfold fewR; simp [h2, hf, h1d]; omega
          rw [this, Bool.true_and]
          simp [h, hlt, h1', h4, h2', k6, h3', hw, ih]
      · have h2' : ¬ (40 : Int) < (l.length : Int) := by omega
        have : fewR (decide (40 < l.length)) l[i] = true := by unfold fewR; simp [h2, hf, h1d]
        rw [this, Bool.true_and]
        simp [h, hlt, h1', h4, h2', hw, ih]
def few13 (l : List Row) : Bool := l.all (fewR (decide (40 < l.length))) && decide (l.length ≤ 300)
theorem few2 (l : List Row) (hl : Rows l) : TT.lim 2 [.l (l.map row)] = some [.b (few13 l)] := by
  refine fn_lim rfl rfl ?_ rfl
  have h3 : TT.lim 3 [.l (l.map row), .i .i64 l.length, .i .i64 0] = _ := loop3 l hl l.length 0 (by omega)
  rw [List.drop_zero] at h3
  unfold few13
  cases hc : l.all (fewR (decide (40 < l.length))) with
  | false => rw [hc] at h3; simp [h3]
  | true =>
    rw [hc] at h3; simp only [if_true] at h3
    have : (decide ((l.length : Int) ≤ 300)) = decide (l.length ≤ 300) := by rw [Bool.eq_iff_iff]; simp; omega
    simp [h3, this]
theorem few13_few {l : List Row} (h : few13 l = true) : ∀ r ∈ l, few12 r.1 = true := by
  unfold few13 at h
  rw [Bool.and_eq_true] at h
  intro r hr
  have := List.all_eq_true.1 h.1 r hr
  unfold fewR at this
  simp only [Bool.and_eq_true] at this
  exact this.1.2

/-! ### The table of some rows -/
def keyed (r : Row) : GV := .g [.l (r.1.map ent), .i .u64 r.2, .s (keyF r.1)]
@[simp] theorem keyed_cells (r : Row) : (keyed r).cells = [.l (r.1.map ent), .i .u64 r.2, .s (keyF r.1)] := rfl
def firstErr : List Row → Int
  | [] => 0
  | r :: rs => if rowChk r = 0 then firstErr rs else rowChk r
theorem loop14 (l : List Row) (hl : Rows l) (hf : ∀ r ∈ l, few12 r.1 = true) (h256 : l.length ≤ 256) : ∀ (m i : Nat) (acc : List Row), i + m = l.length → acc.length = i →
    TT.lim 14 [.l (l.map row), .i .i64 l.length, .i .i64 i, .l (acc.map keyed)] = some (if firstErr (l.drop i) = 0 then [.i .i64 1, .l ((acc ++ l.drop i).map keyed)] else [.i .i64 0, .i .i64 (firstErr (l.drop i))])
  | 0, i, acc, hi, ha => by
    have h0 : l.drop i = [] := List.drop_eq_nil_of_le (by omega)
    refine tree_lim rfl rfl ?_
    have h : ¬ ((i : Int) < l.length) := by omega
    simp [h, h0, firstErr]
  | m + 1, i, acc, hi, ha => by
    have hlt : i < l.length := by omega
    have hr := hl.2 l[i] (List.getElem_mem hlt)
    have ih : TT.lim 14 [.l (l.map row), .i .i64 l.length, .i .i64 ((i : Int) + 1), .l ((acc ++ [l[i]]).map keyed)] = _ := loop14 l hl hf h256 m (i + 1) (acc ++ [l[i]]) (by omega) (by simp; omega)
    rw [List.append_assoc, List.singleton_append, ← List.drop_eq_getElem_cons hlt, List.map_append] at ih
    have hfe : firstErr (l.drop i) = if rowChk l[i] = 0 then firstErr (l.drop (i + 1)) else rowChk l[i] := by rw [List.drop_eq_getElem_cons hlt]; rfl
    have k15 := check15 l[i] hr.1
    have k6 := key6 l[i].1 (hf _ (List.getElem_mem hlt))
    have hrow : GV.g [.l (l[i].1.map ent), .i .u64 l[i].2] = row l[i] := rfl
    have hkey : GV.g [.l (l[i].1.map ent), .i .u64 l[i].2, .s (keyF l[i].1)] = keyed l[i] := rfl
    have hok : (keyed l[i]).elemOk 3 = true := rfl
    refine tree_lim rfl rfl ?_
    have h : ((i : Int) < l.length) := by omega
    have hw := wrap64 (n := (i : Int) + 1) (by omega) (by omega)
    by_cases h1 : rowChk l[i] = 0
    · rw [hfe, if_pos h1]
      simp only [List.map_cons, List.map_nil] at ih
      have hb : 2 * (acc.length + 1) * 48 ≤ 281474976710656 ∧ acc.length + 1 ≤ 281474976710656 := by omega
      simp [h, hlt, hrow, k15, h1, k6, hkey, hok, hb, hw]
      rw [ih]
      simp
    · rw [hfe, if_neg h1]
      simp [h, hlt, hrow, k15, h1]

def rowD : Row := ([], 0)
def sortR (l : List Row) : List Row := if l.length < 2 then l else (idxSort (l.map keyed)).toList.map fun i => l.getD i rowD
theorem sortR_keyed (l : List Row) : sortG (l.map keyed) = (sortR l).map keyed := by
  unfold sortG sortR
  rw [List.length_map]
  split
  · rfl
  · rw [List.map_map]
    refine List.map_congr_left fun i hi => ?_
    have := List.mem_range.1 ((idxSort_perm (l.map keyed)).2.mem_iff.1 hi)
    rw [List.length_map] at this
    simp [List.getD, this]
theorem sortR_perm (l : List Row) : (sortR l).Perm l := by
  unfold sortR
  split
  · exact List.Perm.refl _
  · have := (idxSort_perm (l.map keyed)).2.map (fun i => l.getD i rowD)
    rw [List.length_map, map_getD_range] at this
    exact this
theorem sortR_sorted (l : List Row) : ∀ (i j : Nat) (a b : Row), i < j → (sortR l)[i]? = some a → (sortR l)[j]? = some b → Op.bytesLess (keyF b.1) (keyF a.1) = false := by
  intro i j a b hij ha hb
  exact sortG_sorted (l.map keyed) i j (keyed a) (keyed b) hij (by rw [sortR_keyed, List.getElem?_map, ha]; rfl) (by rw [sortR_keyed, List.getElem?_map, hb]; rfl)
theorem sort0 (l : List Row) (hl : l.length ≤ 256) : TT.lim 0 [.l (l.map keyed)] = some [.l ((sortR l).map keyed)] := by
  refine prim_lim (Ds := Ds) (k := 0) (f := sortP) rfl ?_
  have hall : (l.map keyed).all isKeyed = true := by
    rw [List.all_eq_true]; intro x hx; obtain ⟨r, _, rfl⟩ := List.mem_map.1 hx; rfl
  simp only [sortP]
  rw [if_pos ⟨by rw [List.length_map]; omega, hall⟩, sortR_keyed]
theorem clone23 (d : List Ent) (h : d.length ≤ 40) : TT.lim 23 [.l (d.map ent)] = some [.l (d.map ent)] := by
  refine prim_lim (Ds := Ds) (k := 23) (f := cloneP 32 2) rfl ?_
  have hall : (d.map ent).all (GV.elemOk 2) = true := by
    rw [List.all_eq_true]; intro x hx; obtain ⟨r, _, rfl⟩ := List.mem_map.1 hx; rfl
  simp only [cloneP]
  rw [if_pos ⟨by rw [List.length_map]; omega, hall⟩]
/-- Do two neighbours have one key? -/
def adjDup : List Row → Bool
  | a :: b :: l => decide (keyF a.1 = keyF b.1) || adjDup (b :: l)
  | _ => false
def adjFrom (l : List Row) (i : Nat) : Bool := if i = 0 then adjDup l else adjDup (l.drop (i - 1))
theorem adj_step {l : List Row} {i : Nat} (h0 : i ≠ 0) (hlt : i < l.length) : adjFrom l i = (decide (keyF (l[i - 1]'(by omega)).1 = keyF l[i].1) || adjFrom l (i + 1)) := by
  unfold adjFrom
  rw [if_neg h0, if_neg (by omega)]
  obtain ⟨j, rfl⟩ : ∃ j, i = j + 1 := ⟨i - 1, by omega⟩
  simp only [Nat.add_sub_cancel]
  rw [List.drop_eq_getElem_cons (show j < l.length by omega), List.drop_eq_getElem_cons hlt]
  rfl
theorem loop22 (s : List Row) (hf : ∀ r ∈ s, few12 r.1 = true) (h256 : s.length ≤ 256) : ∀ (m i : Nat), i + m = s.length →
    TT.lim 22 [.l ((s.take i).map row), .l (s.map keyed), .i .i64 s.length, .i .i64 i] = some (if adjFrom s i = true then [.i .i64 0] else [.i .i64 1, .l (s.map row)])
  | 0, i, hi => by
    have h0 : s.take i = s := List.take_of_length_le (by omega)
    have ha : adjFrom s i = false := by
      unfold adjFrom
      split
      · next h => subst h; have : s = [] := List.eq_nil_of_length_eq_zero (by omega); rw [this]; rfl
      · next h =>
        rw [List.drop_eq_getElem_cons (show i - 1 < s.length by omega), List.drop_eq_nil_of_le (by omega)]
        rfl
    rw [h0, ha]
    refine tree_lim rfl rfl ?_
    have h : ¬ ((i : Int) < s.length) := by omega
    simp [h]
  | m + 1, i, hi => by
    have hlt : i < s.length := by omega
    have ih : TT.lim 22 [.l ((s.take (i + 1)).map row), .l (s.map keyed), .i .i64 s.length, .i .i64 ((i : Int) + 1)] = _ := loop22 s hf h256 m (i + 1) (by omega)
    rw [List.take_succ_eq_append_getElem hlt, List.map_append] at ih
    simp only [List.map_cons, List.map_nil, List.map_take] at ih
    have hfi := hf _ (List.getElem_mem hlt)
    have hd40 : s[i].1.length ≤ 40 := by unfold few12 at hfi; rw [Bool.and_eq_true, decide_eq_true_iff] at hfi; exact hfi.2
    have kc := clone23 s[i].1 hd40
    have hrow : GV.g [.l (s[i].1.map ent), .i .u64 s[i].2] = row s[i] := rfl
    have hok : (row s[i]).elemOk 2 = true := rfl
    have hmin : min i s.length = i := by omega
    have hb : 2 * (i + 1) * 32 ≤ 281474976710656 ∧ i + 1 ≤ 281474976710656 := by omega
    refine tree_lim rfl rfl ?_
    have h : ((i : Int) < s.length) := by omega
    have hw := wrap64 (n := (i : Int) + 1) (by omega) (by omega)
    by_cases h0 : i = 0
    · subst h0
      have ha : adjFrom s 0 = adjFrom s 1 := by
        unfold adjFrom; simp
      rw [ha]
      simp only [Int.natCast_zero, Int.zero_add, List.take_zero, List.map_nil, List.nil_append] at hw ih
      have hn : (0 : Int) < (s.length : Int) := by omega
      simp [hn, hlt, kc, hrow, hok, hw]
      exact ih
    · have hi0 : 0 < i := by omega
      have hi1 : i - 1 < s.length := by omega
      have hw2 := wrap64 (n := (i : Int) - 1) (by omega) (by omega)
      have ht : ((i : Int) - 1).toNat = i - 1 := by omega
      have hnl : (1 : Int) ≤ (i : Int) := by omega
      have hlt2 : (i : Int) - 1 < (s.length : Int) := by omega
      rw [adj_step h0 hlt]
      by_cases h2 : keyF s[i].1 = keyF s[i - 1].1
      · have h3 : (keyF s[i - 1].1 = keyF s[i].1) = True := eq_true h2.symm
        have h2' : (keyF s[i].1 = keyF s[i - 1].1) = True := eq_true h2
        clear h2
        simp [h, hlt, hi0, hw2, ht, hnl, hlt2, hi1, h2', h3]
      · have h3 : ¬ keyF s[i - 1].1 = keyF s[i].1 := fun e => h2 e.symm
        simp [h, hlt, hi0, hw2, ht, hnl, hlt2, hi1, h2, h3, kc, hrow, hok, hmin, hb, hw, ih]

def ofR (l : List Row) : List Row × Int :=
  if 256 < l.length then ([], 13) else if firstErr l = 0 then (if adjDup (sortR l) = true then ([], 14) else (sortR l, 0)) else ([], firstErr l)
theorem of13 (l : List Row) (hl : Rows l) (hf : ∀ r ∈ l, few12 r.1 = true) : TT.lim 13 [.l (l.map row)] = some [.l ((ofR l).1.map row), .i .i64 (ofR l).2] := by
  refine fn_lim rfl rfl ?_ rfl
  unfold ofR
  by_cases h1 : 256 < l.length
  · have h1' : (256 : Int) < (l.length : Int) := by omega
    simp [h1, h1']
  have h1' : ¬ (256 : Int) < (l.length : Int) := by omega
  have k14 : TT.lim 14 [.l (l.map row), .i .i64 l.length, .i .i64 0, .l []] = _ := loop14 l hl hf (by omega) l.length 0 [] (by omega) rfl
  rw [List.drop_zero, List.nil_append] at k14
  by_cases h2 : firstErr l = 0
  · rw [if_pos h2] at k14
    have k0 := sort0 l (by omega)
    have hp := sortR_perm l
    have hsl : (sortR l).length = l.length := hp.length_eq
    have k22 : TT.lim 22 [.l [], .l ((sortR l).map keyed), .i .i64 (sortR l).length, .i .i64 0] = _ := loop22 (sortR l) (fun r hr => hf r (hp.mem_iff.1 hr)) (by omega) (sortR l).length 0 (by omega)
    have ha : adjFrom (sortR l) 0 = adjDup (sortR l) := rfl
    rw [ha] at k22
    have hc : (0 : Int) ≤ ((sortR l).length : Int) ∧ 32 * ((sortR l).length : Int) ≤ 281474976710656 ∧ ((sortR l).length : Int) ≤ 1152921504606846976 := by omega
    have hok : (GV.g [GV.l [], GV.i IntKind.u64 0]).elemOk 2 = true := rfl
    cases hd : adjDup (sortR l) with
    | true => rw [hd] at k22; simp only [if_true] at k22; simp [h1, h1', k14, h2, k0, hc, hok, k22]
    | false => rw [hd] at k22; simp only [Bool.false_eq_true, if_false] at k22; simp [h1, h1', k14, h2, k0, hc, hok, k22]
  · rw [if_neg h2] at k14
    simp [h1, h1', k14, h2]
end D
end Go.Proofs.YtamcdgfjjeldeaaGreatDoor
