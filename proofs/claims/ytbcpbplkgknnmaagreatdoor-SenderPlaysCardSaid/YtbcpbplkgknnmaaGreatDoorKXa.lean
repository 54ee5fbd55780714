/- What the trees compute: plain laws. -/
import Derived.Test.YtbcpbplkgknnmaaGreatDoorKXT
import Derived.Test.YtbcpbplkgknnmaaGreatDoorAbsPl
import Derived.Test.YtbcpbplkgknnmaaGreatDoorAbsTold3
import Derived.Lib.TrimUEq
import Derived.Lib.MapLaws
namespace Go.Proofs.YtbcpbplkgknnmaaGreatDoor
open Go Go.Abs
set_option linter.unusedSimpArgs false
set_option linter.unusedVariables false
set_option maxRecDepth 100000
namespace X
theorem bytesLess_lt : ∀ a b : List UInt8, Op.bytesLess a b = decide (a < b)
  | _, [] => by simp [Op.bytesLess]
  | [], _ :: _ => by simp [Op.bytesLess]
  | a :: x, b :: y => by
    rw [Op.bytesLess, bytesLess_lt x y, Bool.eq_iff_iff]
    simp [List.cons_lt_cons_iff]
/-- An entry: key and value. A row: its entries and its number. -/
abbrev Ent := List UInt8 × List UInt8
abbrev Row := List Ent × Int
def ent (x : Ent) : GV := .g [.s x.1, .s x.2]
def row (r : Row) : GV := .g [.l (r.1.map ent), .i .u64 r.2]
@[simp] theorem ent_cells (x : Ent) : (ent x).cells = [.s x.1, .s x.2] := rfl
@[simp] theorem row_cells (r : Row) : (row r).cells = [.l (r.1.map ent), .i .u64 r.2] := rfl
@[simp] theorem ent_scalar (x : Ent) : (ent x).scalar = false := rfl
@[simp] theorem row_scalar (r : Row) : (row r).scalar = false := rfl
/-- Texts and lists of no more than any machine bears. -/
def Ents (d : List Ent) : Prop := d.length ≤ 140737488351232 ∧ ∀ x ∈ d, x.1.length ≤ 140737488351232 ∧ x.2.length ≤ 140737488351232
def Rows (l : List Row) : Prop := l.length ≤ 140737488351232 ∧ ∀ r ∈ l, Ents r.1 ∧ 0 ≤ r.2 ∧ r.2 < 18446744073709551616
def fewE (x : Ent) : Bool := decide (x.1.length + x.2.length ≤ 600)
theorem loop5 (d : List Ent) (hd : Ents d) : ∀ m i : Nat, i + m = d.length → TT.lim 5 [.l (d.map ent), .i .i64 d.length, .i .i64 i] = some (if (d.drop i).all fewE = true then [.i .i64 1] else [.i .i64 0])
  | 0, i, hi => by
    have h0 : d.drop i = [] := List.drop_eq_nil_of_le (by omega)
    refine tree_lim rfl rfl ?_
    have h : ¬ ((i : Int) < d.length) := by omega
    simp [h, h0]
  | m + 1, i, hi => by
    have hlt : i < d.length := by omega
    have ih : TT.lim 5 [.l (d.map ent), .i .i64 d.length, .i .i64 ((i : Int) + 1)] = _ := loop5 d hd m (i + 1) (by omega)
    refine tree_lim rfl rfl ?_
    have h : ((i : Int) < d.length) := by omega
    have hw := wrap64 (n := (i : Int) + 1) (by omega) (by have := hd.1; omega)
    have hx := hd.2 d[i] (List.getElem_mem hlt)
    have hw2 := wrap64 (n := (d[i].1.length : Int) + (d[i].2.length : Int)) (by omega) (by omega)
    have hda : (d.drop i).all fewE = (fewE d[i] && (d.drop (i + 1)).all fewE) := by rw [List.drop_eq_getElem_cons hlt, List.all_cons]
    by_cases hf : (600 : Int) < (d[i].1.length : Int) + (d[i].2.length : Int)
    · have : fewE d[i] = false := by unfold fewE; simp; omega
      simp [h, hlt, hw2, hf, hda, this]
    · have : fewE d[i] = true := by unfold fewE; simp; omega
      rw [hda, this, Bool.true_and]
      simp [h, hlt, hw, hw2, hf, ih]
def few12 (d : List Ent) : Bool := d.all fewE && decide (d.length ≤ 40)
theorem few4 (d : List Ent) (hd : Ents d) : TT.lim 4 [.l (d.map ent)] = some [.b (few12 d)] := by
  refine fn_lim rfl rfl ?_ rfl
  have h5 : TT.lim 5 [.l (d.map ent), .i .i64 d.length, .i .i64 0] = _ := loop5 d hd d.length 0 (by omega)
  rw [List.drop_zero] at h5
  cases hc : d.all fewE with
  | false => rw [hc] at h5; simp [h5, few12, hc]
  | true =>
    rw [hc] at h5; simp only [if_true] at h5
    have : (decide ((d.length : Int) ≤ 40)) = decide (d.length ≤ 40) := by rw [Bool.eq_iff_iff]; simp; omega
    simp [h5, few12, hc, this]
def vput (n : Nat) : List UInt8 := if n < 128 then [UInt8.ofNat n] else UInt8.ofNat (n % 128 + 128) :: vput (n / 128)
termination_by n
decreasing_by omega
theorem vput_lt {n : Nat} (h : n < 128) : vput n = [UInt8.ofNat n] := by rw [vput, if_pos h]
theorem vput_ge {n : Nat} (h : ¬ n < 128) : vput n = UInt8.ofNat (n % 128 + 128) :: vput (n / 128) := by rw [vput, if_neg h]
theorem u8_inj {a b : Nat} (ha : a < 256) (hb : b < 256) (h : UInt8.ofNat a = UInt8.ofNat b) : a = b := by
  have := congrArg UInt8.toNat h
  simp at this
  omega
/-- No number's bytes begin another's. -/
theorem vput_inj : ∀ (n m : Nat) (x y : List UInt8), vput n ++ x = vput m ++ y → n = m ∧ x = y := by
  intro n
  induction n using Nat.strongRecOn with
  | _ n ih =>
    intro m x y h
    by_cases hn : n < 128 <;> by_cases hm : m < 128
    · rw [vput_lt hn, vput_lt hm] at h
      simp only [List.cons_append, List.nil_append, List.cons.injEq] at h
      exact ⟨u8_inj (by omega) (by omega) h.1, h.2⟩
    · rw [vput_lt hn, vput_ge hm] at h
      simp only [List.cons_append, List.nil_append, List.cons.injEq] at h
      have := u8_inj (by omega) (by omega) h.1
      omega
    · rw [vput_ge hn, vput_lt hm] at h
      simp only [List.cons_append, List.nil_append, List.cons.injEq] at h
      have := u8_inj (by omega) (by omega) h.1
      omega
    · rw [vput_ge hn, vput_ge hm] at h
      simp only [List.cons_append, List.cons.injEq] at h
      have h1 := u8_inj (by omega) (by omega) h.1
      obtain ⟨h2, h3⟩ := ih (n / 128) (by omega) (m / 128) x y h.2
      exact ⟨by omega, h3⟩
def vsize (n : Nat) : Nat := (vput n).length
theorem shr7 {n : Int} (h0 : 0 ≤ n) : n.fdiv (2 ^ (7 : Nat)) = n / 128 := by
  rw [Int.fdiv_eq_ediv_of_nonneg _ (by decide)]; rfl
theorem shr_u64 {n : Nat} : shG .shr .u64 (n : Int) 7 = some (.i .u64 ((n / 128 : Nat) : Int)) := by
  have : ((n : Int)).fdiv (2 ^ (7 : Nat)) = ((n / 128 : Nat) : Int) := by rw [shr7 (by omega)]; omega
  simp [shG, IntKind.bits]
  exact this
theorem vsize_pos (n : Nat) : 0 < vsize n := by unfold vsize; rw [vput]; split <;> simp
theorem vsize_ge {n : Nat} (h : ¬ n < 128) : vsize n = vsize (n / 128) + 1 := by unfold vsize; rw [vput_ge h]; rfl
theorem vsize_le : ∀ (k n : Nat), 0 < k → n < 128 ^ k → vsize n ≤ k
  | 0, _, h, _ => by omega
  | k + 1, n, _, h => by
    by_cases hn : n < 128
    · unfold vsize; rw [vput_lt hn]; simp
    · rw [vsize_ge hn]
      cases k with
      | zero => simp at h; omega
      | succ k =>
        have : n / 128 < 128 ^ (k + 1) := by rw [Nat.pow_succ] at h; omega
        have := vsize_le (k + 1) (n / 128) (by omega) this
        omega
theorem vsize64 {n : Nat} (h : n < 18446744073709551616) : vsize n ≤ 10 := vsize_le 10 n (by omega) (by omega)
theorem loop9 : ∀ (n s : Nat), s + vsize n ≤ 1000 → n < 18446744073709551616 → TT.lim 9 [.i .u64 n, .i .i64 s] = some [.i .i64 0, .i .i64 ((s + vsize n - 1 : Nat) : Int)] := by
  intro n
  induction n using Nat.strongRecOn with
  | _ n ih =>
    intro s hs hn
    refine tree_lim rfl rfl ?_
    by_cases h : n < 128
    · have h' : ¬ (128 : Int) ≤ n := by omega
      simp [h', vsize, vput_lt h]
    · have h' : (128 : Int) ≤ n := by omega
      have hv := vsize_ge h
      have hp := vsize_pos (n / 128)
      have hw := wrap64 (n := (s : Int) + 1) (by omega) (by omega)
      have ih' : TT.lim 9 [.i .u64 ((n / 128 : Nat) : Int), .i .i64 ((s : Int) + 1)] = _ := ih (n / 128) (by omega) (s + 1) (by omega) (by omega)
      have hn' : s + vsize n - 1 = s + 1 + vsize (n / 128) - 1 := by omega
      rw [hn']
      have h7 : shG .shr .u64 (n : Int) 7 = some (.i .u64 ((n / 128 : Nat) : Int)) := shr_u64
      generalize ((n / 128 : Nat) : Int) = q at h7 ih'
      simp [h', hw, h7, ih']
theorem size8 (n : Nat) (hn : n < 18446744073709551616) : TT.lim 8 [.i .u64 n] = some [.i .i64 (vsize n)] := by
  have hp := vsize_pos n
  have h9 : TT.lim 9 [.i .u64 n, .i .i64 1] = _ := loop9 n 1 (by have := vsize64 hn; omega) hn
  rw [show 1 + vsize n - 1 = vsize n by omega] at h9
  refine fn_lim rfl rfl ?_ rfl
  simp [h9]
/-- The bytes of a number, each with its high bit set. -/
def vraw : Nat → Nat → List Nat
  | 0, _ => []
  | k + 1, n => (n % 128 + 128) :: vraw k (n / 128)
def byteG (n : Nat) : GV := .i .u8 n
theorem and127 (n : Nat) (hn : n < 18446744073709551616) : intG .and .u64 (n : Int) 127 = some (.i .u64 ((n % 128 : Nat) : Int)) := by
  have h1 : ((BitVec.ofInt 64 (n : Int) &&& BitVec.ofInt 64 127).toNat : Nat) = n % 128 := by
    rw [BitVec.toNat_and, BitVec.toNat_ofInt, BitVec.toNat_ofInt]
    have e1 : ((n : Int) % ((2 ^ 64 : Nat) : Int)).toNat = n := by omega
    have e2 : ((127 : Int) % ((2 ^ 64 : Nat) : Int)).toNat = 2 ^ 7 - 1 := by decide
    rw [e1, e2, Nat.and_two_pow_sub_one_eq_mod]
  show some (GV.i .u64 (IntKind.u64.wrap (((BitVec.ofInt 64 (n : Int) &&& BitVec.ofInt 64 127).toNat : Nat) : Int))) = _
  rw [h1, wrapu64 (by omega) (by omega)]
theorem and127_8 (n : Nat) (hn : n < 256) : intG .and .u8 (n : Int) 127 = some (.i .u8 ((n % 128 : Nat) : Int)) := by
  have : ∀ x : Fin 256, IntKind.u8.wrap (((BitVec.ofInt IntKind.u8.bits ((x.val : Nat) : Int) &&& BitVec.ofInt IntKind.u8.bits 127).toNat : Nat) : Int) = ((x.val % 128 : Nat) : Int) := by decide +kernel
  show some (GV.i .u8 _) = some (GV.i .u8 _)
  exact congrArg (fun z => some (GV.i .u8 z)) (this ⟨n, hn⟩)
theorem or128 (n : Nat) (hn : n < 128) : intG .or .u8 (n : Int) 128 = some (.i .u8 ((n + 128 : Nat) : Int)) := by
  have : ∀ x : Fin 128, IntKind.u8.wrap (((BitVec.ofInt IntKind.u8.bits ((x.val : Nat) : Int) ||| BitVec.ofInt IntKind.u8.bits 128).toNat : Nat) : Int) = ((x.val + 128 : Nat) : Int) := by decide +kernel
  show some (GV.i .u8 _) = some (GV.i .u8 _)
  exact congrArg (fun z => some (GV.i .u8 z)) (this ⟨n, hn⟩)
theorem wrapu8 {n : Int} (h0 : 0 ≤ n) (h1 : n < 256) : IntKind.u8.wrap n = n := by
  have : IntKind.u8.wrap n = n % 256 := by simp [IntKind.wrap, IntKind.signed, IntKind.bits]
  rw [this]; omega
@[simp] theorem byteG_cells (n : Nat) : (byteG n).cells = [byteG n] := rfl
@[simp] theorem byteG_scalar (n : Nat) : (byteG n).scalar = true := rfl
@[simp] theorem byteG_put (n : Nat) (v : GV) : (byteG n).put 0 [v] = some v := rfl
theorem bytesG_map : ∀ l : List Nat, (∀ x ∈ l, x < 256) → bytesG (l.map byteG) = some (l.map UInt8.ofNat)
  | [], _ => rfl
  | a :: l, h => by
    have h1 := h a (by simp)
    have h2 := bytesG_map l fun x hx => h x (by simp [hx])
    simp only [List.map_cons, byteG, bytesG] at h2 ⊢
    rw [if_pos (by omega)]
    have : (fun n : Nat => GV.i .u8 (n : Int)) = byteG := rfl
    rw [h2]
    simp
theorem loop10 : ∀ (m n : Nat) (done : List Nat), n < 18446744073709551616 → done.length + m < 1000 →
    TT.lim 10 [.i .u64 n, .l ((done ++ List.replicate m 0).map byteG), .i .i64 ((done.length + m : Nat) : Int), .i .i64 done.length] = some [.i .i64 0, .l ((done ++ vraw m n).map byteG)]
  | 0, n, done, hn, hd => by
    refine tree_lim rfl rfl ?_
    simp [vraw]
  | m + 1, n, done, hn, hd => by
    have hlt : (done.length : Int) < ((done.length + (m + 1) : Nat) : Int) := by omega
    have hw := wrap64 (n := (done.length : Int) + 1) (by omega) (by omega)
    have hw8 := wrapu8 (n := ((n % 128 : Nat) : Int)) (by omega) (by omega)
    have h7 : shG .shr .u64 (n : Int) 7 = some (.i .u64 ((n / 128 : Nat) : Int)) := shr_u64
    have ha := and127 n hn
    have ho := or128 (n % 128) (by omega)
    have ih := loop10 m (n / 128) (done ++ [n % 128 + 128]) (by omega) (by simp; omega)
    have hlen : (done ++ [n % 128 + 128]).length + m = done.length + (m + 1) := by simp; omega
    rw [hlen] at ih
    have hl2 : (((done ++ [n % 128 + 128]).length : Nat) : Int) = (done.length : Int) + 1 := by simp
    rw [hl2] at ih
    have hset : ((done ++ List.replicate (m + 1) 0).map byteG).set done.length (byteG (n % 128 + 128)) = (done ++ [n % 128 + 128] ++ List.replicate m 0).map byteG := by
      rw [List.replicate_succ, ← List.map_set, List.set_append_right _ _ (Nat.le_refl _), Nat.sub_self]
      simp
    have hget : ((done ++ List.replicate (m + 1) 0).map byteG)[done.length]? = some (byteG 0) := by
      rw [List.getElem?_map, List.getElem?_append_right (Nat.le_refl _), Nat.sub_self, List.replicate_succ]; rfl
    have hll : ((done ++ List.replicate (m + 1) 0).map byteG).length = done.length + (m + 1) := by simp
    have hv : done ++ vraw (m + 1) n = done ++ [n % 128 + 128] ++ vraw m (n / 128) := by simp [vraw]
    rw [hv]
    generalize hL : (done ++ List.replicate (m + 1) 0).map byteG = L at *
    refine tree_lim rfl rfl ?_
    have hix : (0 : Int) ≤ (done.length : Int) ∧ (done.length : Int) < (L.length : Int) := by rw [hll]; omega
    have hob : GV.i IntKind.u8 ((n % 128 + 128 : Nat) : Int) = byteG (n % 128 + 128) := rfl
    have hset' : L.set done.length (GV.i IntKind.u8 ((n % 128 + 128 : Nat) : Int)) = (done ++ [n % 128 + 128] ++ List.replicate m 0).map byteG := hset
    generalize (done ++ [n % 128 + 128] ++ List.replicate m 0).map byteG = L2 at ih hset'
    generalize (done ++ [n % 128 + 128] ++ vraw m (n / 128)).map byteG = L3 at ih ⊢
    generalize ((n / 128 : Nat) : Int) = q at h7 ih
    generalize ((n % 128 + 128 : Nat) : Int) = z at ho hset'
    generalize ((n % 128 : Nat) : Int) = rr at ha hw8 ho
    generalize ((done.length + (m + 1) : Nat) : Int) = N at hlt ih ⊢
    simp [hlt, ha, hw8, ho, hix, hget, h7, hw, hset', ih]
theorem vraw_len : ∀ m n, (vraw m n).length = m
  | 0, _ => rfl
  | m + 1, n => by simp [vraw, vraw_len m]
theorem vraw_lt : ∀ m n, ∀ x ∈ vraw m n, x < 256
  | 0, _, x, h => by simp [vraw] at h
  | m + 1, n, x, h => by
    simp only [vraw, List.mem_cons] at h
    rcases h with rfl | h
    · omega
    · exact vraw_lt m _ x h
/-- The last byte without its high bit: as numbers are written. -/
theorem vraw_put : ∀ (s n : Nat), vsize n = s + 1 → ∃ x, (vraw (s + 1) n)[s]? = some x ∧ ((vraw (s + 1) n).set s (x % 128)).map UInt8.ofNat = vput n
  | 0, n, h => by
    have hn : n < 128 := by
      by_cases hn : n < 128
      · exact hn
      · rw [vsize_ge hn] at h; have := vsize_pos (n / 128); omega
    refine ⟨n % 128 + 128, by simp [vraw], ?_⟩
    rw [vput_lt hn]
    simp [vraw]
    rw [Nat.mod_eq_of_lt hn]
  | s + 1, n, h => by
    have hn : ¬ n < 128 := by
      intro hn
      unfold vsize at h; rw [vput_lt hn] at h; simp at h
    rw [vsize_ge hn] at h
    obtain ⟨x, h1, h2⟩ := vraw_put s (n / 128) (by omega)
    refine ⟨x, by simp only [vraw, List.getElem?_cons_succ] at h1 ⊢; exact h1, ?_⟩
    rw [vput_ge hn, ← h2]
    simp [vraw]
theorem put7 (n : Nat) (hn : n < 18446744073709551616) : TT.lim 7 [.i .u64 n] = some [.s (vput n)] := by
  have h8 := size8 n hn
  have hp := vsize_pos n
  have hs := vsize64 hn
  obtain ⟨s, hs1⟩ : ∃ s, vsize n = s + 1 := ⟨vsize n - 1, by omega⟩
  obtain ⟨x, h1, h2⟩ := vraw_put s n hs1
  rw [hs1] at h8
  have h10 : TT.lim 10 [.i .u64 n, .l ((List.replicate (s + 1) 0).map byteG), .i .i64 ((s + 1 : Nat) : Int), .i .i64 0] = some [.i .i64 0, .l ((vraw (s + 1) n).map byteG)] := by
    have := loop10 (s + 1) n [] hn (by simp; omega)
    simpa using this
  have hr : (List.replicate (s + 1) 0).map byteG = List.replicate (s + 1) (GV.i .u8 0) := by rw [List.map_replicate]; rfl
  rw [hr] at h10
  have hx : x < 256 := vraw_lt _ _ x (List.mem_of_getElem? h1)
  have ha := and127_8 x hx
  have hget : ((vraw (s + 1) n).map byteG)[s]? = some (byteG x) := by rw [List.getElem?_map, h1]; rfl
  have hset : ((vraw (s + 1) n).map byteG).set s (GV.i .u8 ((x % 128 : Nat) : Int)) = ((vraw (s + 1) n).set s (x % 128)).map byteG := (List.map_set (f := byteG) (l := vraw (s + 1) n) (i := s) (a := x % 128)).symm
  have hb := bytesG_map ((vraw (s + 1) n).set s (x % 128)) (fun y hy => by
    rcases List.mem_or_eq_of_mem_set hy with hy | rfl
    · exact vraw_lt _ _ y hy
    · omega)
  rw [h2] at hb
  have hlen : (((vraw (s + 1) n).set s (x % 128)).map byteG).length = s + 1 := by simp [vraw_len]
  have hlr : (List.replicate (s + 1) (GV.i .u8 0)).length = s + 1 := by simp
  have hl1 : ((vraw (s + 1) n).map byteG).length = s + 1 := by simp [vraw_len]
  generalize ((vraw (s + 1) n).set s (x % 128)).map byteG = L3 at hset hb hlen
  generalize (vraw (s + 1) n).map byteG = L2 at h10 hget hset hl1
  generalize hrep : List.replicate (s + 1) (GV.i .u8 0) = L1 at h10 hlr
  refine fn_lim rfl rfl ?_ rfl
  have hw := wrap64 (n := (s : Int)) (by omega) (by omega)
  have hcast : ((s + 1 : Nat) : Int) = (s : Int) + 1 := by omega
  rw [hcast] at h8 h10
  have hc1 : (0 : Int) ≤ (s : Int) + 1 ∧ (s : Int) + 1 ≤ 281474976710656 ∧ (s : Int) + 1 ≤ 1152921504606846976 := by omega
  have hc2 : ((s : Int) + 1).toNat = s + 1 := by omega
  have hlt : (s : Int) < (s : Int) + 1 := by omega
  have hs2 : (s : Int) + 1 - 1 = (s : Int) := by omega
  generalize hM : ((x % 128 : Nat) : Int) = M at ha hset
  have hxx : byteG x = .i .u8 x := rfl
  have h48 : s + 1 ≤ 281474976710656 := by omega
  have hg2 : L2[s]'(by omega) = byteG x := by have := hget; rw [List.getElem?_eq_getElem (by omega)] at this; exact Option.some.inj this
  simp [h8, hc1, hc2, hrep, hlr, h10, hl1, hs2, hw, hlt, hget, hg2, ha, hset, hxx, hlen, hb, h48, GV.elemOk]
theorem byteGs_append (a b : List UInt8) : byteGs (a ++ b) = byteGs a ++ byteGs b := by simp [byteGs]
@[simp] theorem byteGs_length (a : List UInt8) : (byteGs a).length = a.length := by simp [byteGs]
theorem byteGs_ok (a : List UInt8) : (byteGs a).all (GV.elemOk 1) = true := by
  rw [List.all_eq_true]
  intro x hx
  obtain ⟨b, _, rfl⟩ := List.mem_map.1 hx
  rfl
theorem bytesG_byteGs : ∀ a : List UInt8, bytesG (byteGs a) = some a
  | [] => rfl
  | x :: a => by
    have ih := bytesG_byteGs a
    simp only [byteGs, List.map_cons, bytesG] at ih ⊢
    have := x.toNat_lt
    rw [if_pos (by omega), ih]
    simp
def entPut (x : Ent) : List UInt8 := vput x.1.length ++ x.1 ++ vput x.2.length ++ x.2
def keyF (d : List Ent) : List UInt8 := vput d.length ++ d.flatMap entPut
theorem vput_len {n : Nat} (h : n < 18446744073709551616) : (vput n).length ≤ 10 := vsize64 h
theorem entput12 (x : Ent) (h1 : x.1.length ≤ 140737488351232) (h2 : x.2.length ≤ 140737488351232) : TT.lim 12 [ent x] = some [.s (entPut x)] := by
  have k1 := put7 x.1.length (by omega)
  have k2 := put7 x.2.length (by omega)
  have l1 := vput_len (n := x.1.length) (by omega)
  have l2 := vput_len (n := x.2.length) (by omega)
  have w1 := wrapu64 (n := (x.1.length : Int)) (by omega) (by omega)
  have w2 := wrapu64 (n := (x.2.length : Int)) (by omega) (by omega)
  refine fn_lim rfl rfl ?_ rfl
  have c1 : ((vput x.1.length).length : Int) + (x.1.length : Int) ≤ 9223372036854775807 := by omega
  have c2 : ((vput x.1.length).length : Int) + ((x.1.length : Int) + ((vput x.2.length).length : Int)) ≤ 9223372036854775807 := by omega
  have c3 : ((vput x.1.length).length : Int) + ((x.1.length : Int) + (((vput x.2.length).length : Int) + (x.2.length : Int))) ≤ 9223372036854775807 := by omega
  simp [w1, w2, k1, k2, c1, c2, c3, entPut, Int.add_assoc]
theorem entPut_len {x : Ent} (h : fewE x = true) : (entPut x).length ≤ 620 := by
  unfold fewE at h
  simp only [decide_eq_true_iff] at h
  have l1 := vput_len (n := x.1.length) (by omega)
  have l2 := vput_len (n := x.2.length) (by omega)
  simp only [entPut, List.length_append]
  omega
theorem flat_len620 : ∀ d : List Ent, d.all fewE = true → (d.flatMap entPut).length ≤ 620 * d.length
  | [], _ => by simp
  | x :: d, h => by
    rw [List.all_cons, Bool.and_eq_true] at h
    have := entPut_len h.1
    have := flat_len620 d h.2
    simp only [List.flatMap_cons, List.length_append, List.length_cons]
    omega
theorem loop11 (d : List Ent) (hf : d.all fewE = true) (hl : d.length ≤ 40) : ∀ (m i : Nat) (acc : List UInt8), i + m = d.length → acc.length ≤ 10 + 620 * i →
    TT.lim 11 [.l (d.map ent), .i .i64 d.length, .i .i64 i, .l (byteGs acc)] = some [.i .i64 0, .l (byteGs (acc ++ (d.drop i).flatMap entPut))]
  | 0, i, acc, hi, ha => by
    have h0 : d.drop i = [] := List.drop_eq_nil_of_le (by omega)
    refine tree_lim rfl rfl ?_
    have h : ¬ ((i : Int) < d.length) := by omega
    simp [h, h0]
  | m + 1, i, acc, hi, ha => by
    have hlt : i < d.length := by omega
    have hx := List.all_eq_true.1 hf d[i] (List.getElem_mem hlt)
    have hx1 := hx
    unfold fewE at hx1
    simp only [decide_eq_true_iff] at hx1
    have hp := entput12 d[i] (by omega) (by omega)
    have hpl := entPut_len hx
    have ih : TT.lim 11 [.l (d.map ent), .i .i64 d.length, .i .i64 ((i : Int) + 1), .l (byteGs (acc ++ entPut d[i]))] = _ := loop11 d hf hl m (i + 1) (acc ++ entPut d[i]) (by omega) (by simp; omega)
    rw [byteGs_append] at ih
    have hd : (d.drop i).flatMap entPut = entPut d[i] ++ (d.drop (i + 1)).flatMap entPut := by rw [List.drop_eq_getElem_cons hlt, List.flatMap_cons]
    rw [hd, ← List.append_assoc]
    refine tree_lim rfl rfl ?_
    have h : ((i : Int) < d.length) := by omega
    have hw := wrap64 (n := (i : Int) + 1) (by omega) (by omega)
    have hok := byteGs_ok (entPut d[i])
    have hb : 2 * (acc.length + (entPut d[i]).length) ≤ 281474976710656 ∧ acc.length + (entPut d[i]).length ≤ 281474976710656 := by omega
    have he : GV.g [GV.s d[i].1, GV.s d[i].2] = ent d[i] := rfl
    simp [-List.all_eq_true, h, hlt, he, hp, hok, hb, hw, ih]
theorem key6 (d : List Ent) (hf : few12 d = true) : TT.lim 6 [.l (d.map ent)] = some [.s (keyF d)] := by
  unfold few12 at hf
  rw [Bool.and_eq_true, decide_eq_true_iff] at hf
  have k := put7 d.length (by omega)
  have l1 := vput_len (n := d.length) (by omega)
  have w1 := wrapu64 (n := (d.length : Int)) (by omega) (by omega)
  have h11 : TT.lim 11 [.l (d.map ent), .i .i64 d.length, .i .i64 0, .l (byteGs (vput d.length))] = _ := loop11 d hf.1 hf.2 d.length 0 (vput d.length) (by omega) (by omega)
  rw [List.drop_zero] at h11
  have hb : 2 * (vput d.length).length ≤ 281474976710656 ∧ (vput d.length).length ≤ 281474976710656 := by omega
  have hok := byteGs_ok (vput d.length)
  have hfl := flat_len620 d hf.1
  have hc : (vput d.length).length + (List.flatMap entPut d).length ≤ 281474976710656 := by omega
  have hbg := bytesG_byteGs (vput d.length ++ d.flatMap entPut)
  refine fn_lim rfl rfl ?_ rfl
  unfold keyF
  generalize d.flatMap entPut = F at *
  simp [-List.all_eq_true, w1, k, hb, hok, h11, hc, hbg]
theorem entPut_inj {x y : Ent} {a b : List UInt8} (h : entPut x ++ a = entPut y ++ b) : x = y ∧ a = b := by
  unfold entPut at h
  simp only [List.append_assoc] at h
  obtain ⟨h1, h2⟩ := vput_inj _ _ _ _ h
  obtain ⟨h3, h4⟩ := List.append_inj h2 h1
  obtain ⟨h5, h6⟩ := vput_inj _ _ _ _ h4
  obtain ⟨h7, h8⟩ := List.append_inj h6 h5
  exact ⟨Prod.ext h3 h7, h8⟩
theorem flat_inj : ∀ {d e : List Ent} {a b : List UInt8}, d.length = e.length → d.flatMap entPut ++ a = e.flatMap entPut ++ b → d = e ∧ a = b
  | [], [], a, b, _, h => ⟨rfl, by simpa using h⟩
  | x :: d, y :: e, a, b, hl, h => by
    simp only [List.flatMap_cons, List.append_assoc] at h
    obtain ⟨h1, h2⟩ := entPut_inj h
    obtain ⟨h3, h4⟩ := flat_inj (by simpa using hl) h2
    exact ⟨by rw [h1, h3], h4⟩
  | [], _ :: _, _, _, hl, _ => by simp at hl
  | _ :: _, [], _, _, hl, _ => by simp at hl
theorem keyF_pre {d e : List Ent} {a b : List UInt8} (h : keyF d ++ a = keyF e ++ b) : d = e ∧ a = b := by
  unfold keyF at h
  simp only [List.append_assoc] at h
  obtain ⟨h1, h2⟩ := vput_inj _ _ _ _ h
  exact flat_inj h1 h2
theorem keyF_inj {d e : List Ent} (h : keyF d = keyF e) : d = e := (keyF_pre (a := []) (b := []) (by simpa using h)).1
def utfChk (s : List UInt8) (lo hi : Int) : Int := if (s.length : Int) < lo then 13 else if hi < (s.length : Int) then 13 else if Lib.validD s = true then 0 else 11
theorem good20 (s : List UInt8) (h : s.length ≤ 140737488351232) : TT.lim 24 [.s s] = some [.b (Lib.validD s)] := by
  have h21 : TT.lim 25 [.s s] = some [.b (Lib.validD s)] := prim_lim (Ds := Ds) (k := 25) (f := validP) rfl (by simp only [validP]; rw [if_pos (by omega)])
  refine fn_lim rfl rfl ?_ rfl
  simp [h21]
theorem check19 (s : List UInt8) (lo hi : Int) (h : s.length ≤ 140737488351232) : TT.lim 23 [.s s, .i .i64 lo, .i .i64 hi] = some [.i .i64 (utfChk s lo hi)] := by
  have h20 := good20 s h
  refine fn_lim rfl rfl ?_ rfl
  unfold utfChk
  by_cases h1 : (s.length : Int) < lo
  · simp [h1]
  · by_cases h2 : hi < (s.length : Int)
    · simp [h1, h2]
    · cases hv : Lib.validD s <;> rw [hv] at h20 <;> simp [h1, h2, h20, hv]
def entChk (x : Ent) : Int := if utfChk x.1 1 64 ≠ 0 then utfChk x.1 1 64 else utfChk x.2 0 256
theorem entcheck18 (x : Ent) (h1 : x.1.length ≤ 140737488351232) (h2 : x.2.length ≤ 140737488351232) : TT.lim 22 [ent x] = some [.i .i64 (entChk x)] := by
  have k1 := check19 x.1 1 64 h1
  have k2 := check19 x.2 0 256 h2
  refine fn_lim rfl rfl ?_ rfl
  unfold entChk
  by_cases h : utfChk x.1 1 64 = 0
  · simp [k1, h, k2]
  · simp [k1, h]
def chkL : Option (List UInt8) → List Ent → Int
  | _, [] => 0
  | p, x :: xs => if entChk x ≠ 0 then entChk x else match p with
    | none => chkL (some x.1) xs
    | some k => if x.1 = k then 14 else if Op.bytesLess x.1 k = true then 7 else chkL (some x.1) xs
def tagged (r : Int) : List GV := if r = 0 then [.i .i64 1] else [.i .i64 0, .i .i64 r]
def prevK (d : List Ent) (i : Nat) : Option (List UInt8) := if i = 0 then none else (d[i - 1]?).map (·.1)
theorem loop17 (d : List Ent) (hd : Ents d) : ∀ m i : Nat, i + m = d.length → TT.lim 21 [.l (d.map ent), .i .i64 d.length, .i .i64 i] = some (tagged (chkL (prevK d i) (d.drop i)))
  | 0, i, hi => by
    have h0 : d.drop i = [] := List.drop_eq_nil_of_le (by omega)
    refine tree_lim rfl rfl ?_
    have h : ¬ ((i : Int) < d.length) := by omega
    simp [h, h0, chkL, tagged]
  | m + 1, i, hi => by
    have hlt : i < d.length := by omega
    have hx := hd.2 d[i] (List.getElem_mem hlt)
    have hp := entcheck18 d[i] hx.1 hx.2
    have ih : TT.lim 21 [.l (d.map ent), .i .i64 d.length, .i .i64 ((i : Int) + 1)] = _ := loop17 d hd m (i + 1) (by omega)
    have hpk : prevK d (i + 1) = some d[i].1 := by unfold prevK; rw [if_neg (by omega)]; simp [hlt]
    rw [hpk] at ih
    have hdr : d.drop i = d[i] :: d.drop (i + 1) := List.drop_eq_getElem_cons hlt
    rw [hdr]
    refine tree_lim rfl rfl ?_
    have h : ((i : Int) < d.length) := by omega
    have hw := wrap64 (n := (i : Int) + 1) (by omega) (by have := hd.1; omega)
    have he : GV.g [GV.s d[i].1, GV.s d[i].2] = ent d[i] := rfl
    by_cases h1 : entChk d[i] = 0
    rotate_left
    · simp [h, hlt, he, hp, h1, chkL, tagged]
    by_cases h0 : i = 0
    · subst h0
      simp only [Int.natCast_zero, Int.zero_add] at hw ih
      simp [h, hlt, he, hp, h1, chkL, prevK, hw]
      simpa using ih
    · have hi1 : i - 1 < d.length := by omega
      have hpk2 : prevK d i = some d[i - 1].1 := by unfold prevK; rw [if_neg h0]; simp [hi1]
      have hw2 := wrap64 (n := (i : Int) - 1) (by omega) (by have := hd.1; omega)
      have hi0 : ¬ ((i : Int) = 0) := by omega
      have hge : (0 : Int) ≤ (i : Int) - 1 := by omega
      have ht : ((i : Int) - 1).toNat = i - 1 := by omega
      have hnl : (1 : Int) ≤ (i : Int) := by omega
      rw [hpk2]
      by_cases h2 : d[i].1 = d[i - 1].1
      · have h2' : (d[i].1 = d[i - 1].1) = True := eq_true h2
        clear h2
        simp [h, hlt, he, hp, h1, hi0, h0, hw2, ht, hi1, h2', chkL, tagged, hnl]
      · cases h3 : Op.bytesLess d[i].1 d[i - 1].1 with
        | true => simp [h, hlt, he, hp, h1, hi0, h0, hw2, ht, hi1, h2, h3, chkL, tagged, hnl]
        | false => simp [h, hlt, he, hp, h1, hi0, h0, hw2, ht, hi1, h2, h3, chkL, hw, ih, hnl]
def descrChk (d : List Ent) : Int := if d.length = 0 then 12 else if 16 < d.length then 13 else chkL none d
theorem check16 (d : List Ent) (hd : Ents d) : TT.lim 20 [.l (d.map ent)] = some [.i .i64 (descrChk d)] := by
  have h17 : TT.lim 21 [.l (d.map ent), .i .i64 d.length, .i .i64 0] = _ := loop17 d hd d.length 0 (by omega)
  have hpk : prevK d 0 = none := rfl
  rw [hpk, List.drop_zero] at h17
  have w1 := wrapu64 (n := (d.length : Int)) (by omega) (by have := hd.1; omega)
  refine fn_lim rfl rfl ?_ rfl
  unfold descrChk
  by_cases h0 : d.length = 0
  · have h0' : (d.length : Int) = 0 := by omega
    have : d = [] := List.eq_nil_of_length_eq_zero h0
    subst this
    simp [IntKind.wrap, IntKind.signed]
  · have h0' : ¬ (d.length : Int) = 0 := by omega
    by_cases h1 : 16 < d.length
    · have h1' : (16 : Int) < (d.length : Int) := by omega
      simp [w1, h0, h1, h0', h1']
    · have h1' : ¬ (16 : Int) < (d.length : Int) := by omega
      by_cases h2 : chkL none d = 0
      · simp only [tagged, h2, if_true] at h17
        simp [w1, h0, h1, h0', h1', h17, h2]
      · simp only [tagged, h2, if_false] at h17
        simp [w1, h0, h1, h0', h1', h17]
def rowChk (r : Row) : Int := if descrChk r.1 ≠ 0 then descrChk r.1 else if r.2 = 0 then 18 else 0
theorem check15 (r : Row) (hd : Ents r.1) : TT.lim 19 [row r] = some [.i .i64 (rowChk r)] := by
  have k := check16 r.1 hd
  refine fn_lim rfl rfl ?_ rfl
  unfold rowChk
  by_cases h : descrChk r.1 = 0
  · by_cases h2 : r.2 = 0
    · simp [k, h, h2]
    · simp [k, h, h2]
  · simp [k, h]
def fewR (long : Bool) (r : Row) : Bool := decide (r.1.length ≤ 18) && few12 r.1 && (!long || decide ((keyF r.1).length ≤ 100))
theorem loop3 (l : List Row) (hl : Rows l) : ∀ m i : Nat, i + m = l.length → TT.lim 3 [.l (l.map row), .i .i64 l.length, .i .i64 i] = some (if (l.drop i).all (fewR (decide (40 < l.length))) = true then [.i .i64 1] else [.i .i64 0])
  | 0, i, hi => by
    have h0 : l.drop i = [] := List.drop_eq_nil_of_le (by omega)
    refine tree_lim rfl rfl ?_
    have h : ¬ ((i : Int) < l.length) := by omega
    simp [h, h0]
  | m + 1, i, hi => by
    have hlt : i < l.length := by omega
    have hr := hl.2 l[i] (List.getElem_mem hlt)
    have ih : TT.lim 3 [.l (l.map row), .i .i64 l.length, .i .i64 ((i : Int) + 1)] = _ := loop3 l hl m (i + 1) (by omega)
    have hda : (l.drop i).all (fewR (decide (40 < l.length))) = (fewR (decide (40 < l.length)) l[i] && (l.drop (i + 1)).all (fewR (decide (40 < l.length)))) := by rw [List.drop_eq_getElem_cons hlt, List.all_cons]
    rw [hda]
    refine tree_lim rfl rfl ?_
    have h : ((i : Int) < l.length) := by omega
    have hw := wrap64 (n := (i : Int) + 1) (by omega) (by have := hl.1; omega)
    have h4 := few4 l[i].1 hr.1
    by_cases h1 : 18 < l[i].1.length
    · have h1' : (18 : Int) < (l[i].1.length : Int) := by omega
      have : fewR (decide (40 < l.length)) l[i] = false := by unfold fewR; simp; omega
      rw [this]
      simp [h, hlt, h1']
    have h1' : ¬ (18 : Int) < (l[i].1.length : Int) := by omega
    have h1d : l[i].1.length ≤ 18 := by omega
    cases hf : few12 l[i].1 with
    | false =>
      rw [hf] at h4
      have : fewR (decide (40 < l.length)) l[i] = false := by unfold fewR; simp [hf]
      rw [this]
      simp [h, hlt, h1', h4]
    | true =>
      rw [hf] at h4
      have k6 := key6 l[i].1 hf
      by_cases h2 : 40 < l.length
      · have h2' : (40 : Int) < (l.length : Int) := by omega
        by_cases h3 : 100 < (keyF l[i].1).length
        · have h3' : (100 : Int) < ((keyF l[i].1).length : Int) := by omega
          have : fewR (decide (40 < l.length)) l[i] = false := by unfold fewR; simp [h2]; omega
          rw [this]
          simp [h, hlt, h1', h4, h2', k6, h3']
        · have h3' : ¬ (100 : Int) < ((keyF l[i].1).length : Int) := by omega
          have : fewR (decide (40 < l.length)) l[i] = true := by unfold fewR; simp [h2, hf, h1d]; omega
          rw [this, Bool.true_and]
          simp [h, hlt, h1', h4, h2', k6, h3', hw, ih]
      · have h2' : ¬ (40 : Int) < (l.length : Int) := by omega
        have : fewR (decide (40 < l.length)) l[i] = true := by unfold fewR; simp [h2, hf, h1d]
        rw [this, Bool.true_and]
        simp [h, hlt, h1', h4, h2', hw, ih]
def few13 (l : List Row) : Bool := l.all (fewR (decide (40 < l.length))) && decide (l.length ≤ 300)
theorem few2 (l : List Row) (hl : Rows l) : TT.lim 2 [.l (l.map row)] = some [.b (few13 l)] := by
  refine fn_lim rfl rfl ?_ rfl
  have h3 : TT.lim 3 [.l (l.map row), .i .i64 l.length, .i .i64 0] = _ := loop3 l hl l.length 0 (by omega)
  rw [List.drop_zero] at h3
  unfold few13
  cases hc : l.all (fewR (decide (40 < l.length))) with
  | false => rw [hc] at h3; simp [h3]
  | true =>
    rw [hc] at h3; simp only [if_true] at h3
    have : (decide ((l.length : Int) ≤ 300)) = decide (l.length ≤ 300) := by rw [Bool.eq_iff_iff]; simp; omega
    simp [h3, this]
theorem few13_few {l : List Row} (h : few13 l = true) : ∀ r ∈ l, few12 r.1 = true := by
  unfold few13 at h
  rw [Bool.and_eq_true] at h
  intro r hr
  have := List.all_eq_true.1 h.1 r hr
  unfold fewR at this
  simp only [Bool.and_eq_true] at this
  exact this.1.2
theorem clone23 (d : List Ent) (h : d.length ≤ 40) : TT.lim 28 [.l (d.map ent)] = some [.l (d.map ent)] := by
  refine prim_lim (Ds := Ds) (k := 28) (f := cloneP 32 2) rfl ?_
  have hall : (d.map ent).all (GV.elemOk 2) = true := by
    rw [List.all_eq_true]; intro x hx; obtain ⟨r, _, rfl⟩ := List.mem_map.1 hx; rfl
  simp only [cloneP]
  rw [if_pos ⟨by rw [List.length_map]; omega, hall⟩]
abbrev K (r : Row) : List UInt8 := keyF r.1
/-- How many rows at the head have lesser keys. -/
def adv (k : List UInt8) : List Row → Nat
  | [] => 0
  | r :: rs => if Op.bytesLess (K r) k = true then adv k rs + 1 else 0
theorem drop_adv (k : List UInt8) : ∀ t : List Row, t.drop (adv k t) = t.dropWhile fun r => Op.bytesLess (K r) k
  | [] => rfl
  | r :: rs => by
    unfold adv
    cases h : Op.bytesLess (K r) k with
    | true => simp [h, drop_adv k rs]
    | false => simp [h]
theorem adv_le (k : List UInt8) : ∀ t : List Row, adv k t ≤ t.length
  | [] => by simp [adv]
  | r :: rs => by
    unfold adv
    have := adv_le k rs
    split <;> simp; omega
def out26 (t : List Row) (i : Nat) (k : GV) (b n j dd nn : GV) : List GV := match t[i]? with
  | some r => [.i .i64 0, .i .i64 i, row r, .l (r.1.map ent), .s (keyF r.1)]
  | none => [.i .i64 1, .i .i64 i]
theorem loop26 (t : List Row) (ht : t.length ≤ 256) (hf : ∀ r ∈ t, few12 r.1 = true) (k : List UInt8) (b n j dd nn : GV) : ∀ m i : Nat, i + m = t.length →
    TT.lim 121 [.l (t.map row), .i .i64 i, .s k, b, n, j, dd, nn] = some (out26 t (i + adv k (t.drop i)) (.s k) b n j dd nn)
  | 0, i, hi => by
    have h0 : t.drop i = [] := List.drop_eq_nil_of_le (by omega)
    have h1 : t[i]? = none := List.getElem?_eq_none (by omega)
    refine tree_lim rfl rfl ?_
    have h : ¬ ((i : Int) < t.length) := by omega
    simp [h, h0, adv, out26, h1]
  | m + 1, i, hi => by
    have hlt : i < t.length := by omega
    have ih : TT.lim 121 [.l (t.map row), .i .i64 ((i : Int) + 1), .s k, b, n, j, dd, nn] = _ := loop26 t ht hf k b n j dd nn m (i + 1) (by omega)
    have k6 := key6 t[i].1 (hf _ (List.getElem_mem hlt))
    have hd : adv k (t.drop i) = if Op.bytesLess (K t[i]) k = true then adv k (t.drop (i + 1)) + 1 else 0 := by rw [List.drop_eq_getElem_cons hlt]; rfl
    refine tree_lim rfl rfl ?_
    have h : ((i : Int) < t.length) := by omega
    have hw := wrap64 (n := (i : Int) + 1) (by omega) (by omega)
    rw [hd]
    cases hb : Op.bytesLess (K t[i]) k with
    | true =>
      have hb' : Op.bytesLess (keyF t[i].1) k = true := hb
      rw [if_pos rfl, show i + (adv k (t.drop (i + 1)) + 1) = i + 1 + adv k (t.drop (i + 1)) by omega]
      simp [h, hlt, k6, hb', hw, ih]
    | false =>
      have hb' : Op.bytesLess (keyF t[i].1) k = false := hb
      have h1 : t[i]? = some t[i] := List.getElem?_eq_getElem hlt
      rw [if_neg (by simp), Nat.add_zero]
      simp [h, hlt, k6, hb', out26]
def atL : List Row → List Row → Bool
  | _, [] => true
  | t, r :: rs => match t.drop (adv (K r) t) with
    | [] => false
    | s :: t' => decide (K s = K r) && decide (r.2 ≤ s.2) && atL (s :: t') rs
theorem loop25 (t b : List Row) (ht : t.length ≤ 256) (hb : b.length ≤ 256) (hf : ∀ r ∈ t, few12 r.1 = true) (hg : ∀ r ∈ b, few12 r.1 = true) : ∀ m j i : Nat, j + m = b.length → i ≤ t.length →
    TT.lim 120 [.l (t.map row), .i .i64 i, .l (b.map row), .i .i64 b.length, .i .i64 j] = some (if atL (t.drop i) (b.drop j) = true then [.i .i64 1] else [.i .i64 0])
  | 0, j, i, hj, hi => by
    have h0 : b.drop j = [] := List.drop_eq_nil_of_le (by omega)
    refine tree_lim rfl rfl ?_
    have h : ¬ ((j : Int) < b.length) := by omega
    simp [h, h0, atL]
  | m + 1, j, i, hj, hi => by
    have hlt : j < b.length := by omega
    have k6 := key6 b[j].1 (hg _ (List.getElem_mem hlt))
    have h26 := loop26 t ht hf (keyF b[j].1) (.l (b.map row)) (.i .i64 b.length) (.i .i64 j) (.l (b[j].1.map ent)) (.i .u64 b[j].2) (t.length - i) i (by omega)
    have hal := adv_le (keyF b[j].1) (t.drop i)
    rw [List.length_drop] at hal
    have hdr : b.drop j = b[j] :: b.drop (j + 1) := List.drop_eq_getElem_cons hlt
    have hat : atL (t.drop i) (b.drop j) = match t.drop (i + adv (keyF b[j].1) (t.drop i)) with
      | [] => false
      | s :: t' => decide (K s = K b[j]) && decide (b[j].2 ≤ s.2) && atL (s :: t') (b.drop (j + 1)) := by
      rw [hdr]; simp only [atL, List.drop_drop]
    rw [hat]
    generalize hi' : i + adv (keyF b[j].1) (t.drop i) = i' at h26 ⊢
    have hi2 : i' ≤ t.length := by omega
    refine tree_lim rfl rfl ?_
    have h : ((j : Int) < b.length) := by omega
    have hw := wrap64 (n := (j : Int) + 1) (by omega) (by omega)
    by_cases hlt2 : i' < t.length
    · have hne : ¬ ((i' : Int) = (t.length : Int)) := by omega
      have h1 : t[i']? = some t[i'] := List.getElem?_eq_getElem hlt2
      have hd2 : t.drop i' = t[i'] :: t.drop (i' + 1) := List.drop_eq_getElem_cons hlt2
      have k7 := key6 t[i'].1 (hf _ (List.getElem_mem hlt2))
      have ih : TT.lim 120 [.l (t.map row), .i .i64 i', .l (b.map row), .i .i64 b.length, .i .i64 ((j : Int) + 1)] = _ := loop25 t b ht hb hf hg m (j + 1) i' (by omega) hi2
      simp only [out26, h1] at h26
      rw [hd2]
      rw [hd2] at ih
      by_cases h2 : keyF t[i'].1 = keyF b[j].1
      · have h2' : (keyF t[i'].1 = keyF b[j].1) = True := eq_true h2
        clear h2
        by_cases h3 : t[i'].2 < b[j].2
        · have h3' : ¬ b[j].2 ≤ t[i'].2 := by omega
          simp [h, hlt, k6, h26, hne, hlt2, k7, h2', h3, h3']
        · have h3' : b[j].2 ≤ t[i'].2 := by omega
          simp [h, hlt, k6, h26, hne, hlt2, k7, h2', h3, h3', hw, ih]
      · simp [h, hlt, k6, h26, hne, hlt2, k7, h2]
    · have he : (i' : Int) = (t.length : Int) := by omega
      have h1 : t[i']? = none := List.getElem?_eq_none (by omega)
      have hd2 : t.drop i' = [] := List.drop_eq_nil_of_le (by omega)
      simp only [out26, h1] at h26
      rw [hd2]
      simp [h, hlt, k6, h26, he]
theorem atLeast24 (t b : List Row) (ht : t.length ≤ 256) (hb : b.length ≤ 256) (hf : ∀ r ∈ t, few12 r.1 = true) (hg : ∀ r ∈ b, few12 r.1 = true) : TT.lim 119 [.l (t.map row), .l (b.map row)] = some [.b (atL t b)] := by
  have h25 : TT.lim 120 [.l (t.map row), .i .i64 0, .l (b.map row), .i .i64 b.length, .i .i64 0] = _ := loop25 t b ht hb hf hg b.length 0 0 (by omega) (by omega)
  rw [List.drop_zero, List.drop_zero] at h25
  refine fn_lim rfl rfl ?_ rfl
  cases ha : atL t b <;> rw [ha] at h25 <;> simp at h25 <;> simp [h25]
theorem eqGs_ent (x y : Ent) : eqGs [1, 1] [.s x.1, .s x.2] [.s y.1, .s y.2] = some (decide (x = y)) := by
  simp only [eqGs, Option.map_some, Bool.and_true]
  congr 1
  rw [Bool.eq_iff_iff]
  simp [Prod.ext_iff]
theorem bl_iff (a b : List UInt8) : Op.bytesLess a b = true ↔ a < b := by rw [bytesLess_lt]; simp
theorem bl_not (a b : List UInt8) : Op.bytesLess a b = false ↔ ¬ a < b := by rw [bytesLess_lt]; simp
/-- Rows whose keys rise. -/
def Rise (l : List Row) : Prop := l.Pairwise fun a b => K a < K b
theorem atL_iff : ∀ (b t : List Row), Rise t → Rise b → (atL t b = true ↔ ∀ r ∈ b, ∃ s ∈ t, K s = K r ∧ r.2 ≤ s.2)
  | [], t, _, _ => by simp [atL]
  | r :: rs, t, ht, hb => by
    have hrs := List.pairwise_cons.1 hb
    have hdw := drop_adv (K r) t
    have htd : Rise (t.drop (adv (K r) t)) := ht.sublist (List.drop_sublist _ _)
    have hsub : ∀ s ∈ t.drop (adv (K r) t), s ∈ t := fun s hs => (List.drop_sublist _ _).subset hs
    -- what is not dropped
    have hkeep : ∀ (u : List Row), (∀ s ∈ u, s ∈ t.dropWhile (fun x => Op.bytesLess (K x) (K r)) ∨ K s < K r) → True := fun _ _ => trivial
    have hin : ∀ s ∈ t, ¬ K s < K r → s ∈ t.drop (adv (K r) t) := by
      intro s hs hn
      rw [hdw]
      clear hkeep hsub htd hdw ht
      induction t with
      | nil => simp at hs
      | cons a t ih =>
        rw [List.dropWhile_cons]
        split
        · next ha =>
          rcases List.mem_cons.1 hs with rfl | hs
          · exact absurd ((bl_iff _ _).1 ha) hn
          · exact ih hs
        · exact hs
    have hhead : ∀ s t', t.drop (adv (K r) t) = s :: t' → ¬ K s < K r := by
      intro s t' e
      rw [hdw] at e
      have := List.head?_dropWhile_not (fun x => Op.bytesLess (K x) (K r)) t
      rw [e] at this
      simp only [List.head?_cons, Option.all_some, Bool.not_eq_true'] at this
      intro hlt
      rw [(bl_iff _ _).2 hlt] at this
      cases this
    unfold atL
    cases e : t.drop (adv (K r) t) with
    | nil =>
      simp only [Bool.false_eq_true, false_iff]
      intro h
      obtain ⟨s, hs, hk, _⟩ := h r (by simp)
      have := hin s hs (by rw [hk]; exact List.lt_irrefl _)
      rw [e] at this; simp at this
    | cons s t' =>
      simp only [Bool.and_eq_true, decide_eq_true_iff]
      rw [e] at htd hsub hin
      rw [atL_iff rs (s :: t') htd hrs.2]
      have hst := List.pairwise_cons.1 htd
      constructor
      · rintro ⟨⟨h1, h2⟩, h3⟩ x hx
        rcases List.mem_cons.1 hx with rfl | hx
        · exact ⟨s, hsub s (by simp), h1, h2⟩
        · obtain ⟨y, hy, h4⟩ := h3 x hx
          exact ⟨y, hsub y hy, h4⟩
      · intro h
        obtain ⟨y, hy, hk, hn⟩ := h r (by simp)
        have hy2 := hin y hy (by rw [hk]; exact List.lt_irrefl _)
        have hys : y = s := by
          rcases List.mem_cons.1 hy2 with rfl | hy2
          · rfl
          · have := hst.1 y hy2
            rw [hk] at this
            exact absurd this (hhead s t' e)
        subst hys
        refine ⟨⟨hk, hn⟩, fun x hx => ?_⟩
        obtain ⟨z, hz, h4, h5⟩ := h x (by simp [hx])
        refine ⟨z, hin z hz ?_, h4, h5⟩
        rw [h4]
        exact fun hlt => List.lt_irrefl _ (List.lt_trans hlt (hrs.1 x hx))
theorem atL_trans {a b c : List Row} (ha : Rise a) (hb : Rise b) (hc : Rise c) (h1 : atL a b = true) (h2 : atL b c = true) : atL a c = true := by
  rw [atL_iff _ _ ha hb] at h1
  rw [atL_iff _ _ hb hc] at h2
  rw [atL_iff _ _ ha hc]
  intro r hr
  obtain ⟨s, hs, k1, n1⟩ := h2 r hr
  obtain ⟨u, hu, k2, n2⟩ := h1 s hs
  exact ⟨u, hu, k2.trans k1, Int.le_trans n1 n2⟩
theorem rise_eq : ∀ {a b : List Row}, Rise a → Rise b → (∀ r ∈ a, r ∈ b) → (∀ r ∈ b, r ∈ a) → a = b
  | [], [], _, _, _, _ => rfl
  | [], b :: _, _, _, _, h => absurd (h b (by simp)) (by simp)
  | a :: _, [], _, _, h, _ => absurd (h a (by simp)) (by simp)
  | x :: a, y :: b, ha, hb, h1, h2 => by
    have ha' := List.pairwise_cons.1 ha
    have hb' := List.pairwise_cons.1 hb
    have hxy : x = y := by
      rcases List.mem_cons.1 (h1 x (by simp)) with e | hx
      · exact e
      · rcases List.mem_cons.1 (h2 y (by simp)) with e | hy
        · exact e.symm
        · exact absurd (List.lt_trans (hb'.1 x hx) (ha'.1 y hy)) (List.lt_irrefl _)
    subst hxy
    rw [rise_eq ha'.2 hb'.2 (fun r hr => ?_) (fun r hr => ?_)]
    · rcases List.mem_cons.1 (h1 r (by simp [hr])) with e | h
      · subst e; exact absurd (ha'.1 _ hr) (List.lt_irrefl _)
      · exact h
    · rcases List.mem_cons.1 (h2 r (by simp [hr])) with e | h
      · subst e; exact absurd (hb'.1 _ hr) (List.lt_irrefl _)
      · exact h
theorem rise_key {a : List Row} (ha : Rise a) {r s : Row} (hr : r ∈ a) (hs : s ∈ a) (hk : K r = K s) : r = s := by
  induction a with
  | nil => simp at hr
  | cons x a ih =>
    have ha' := List.pairwise_cons.1 ha
    rcases List.mem_cons.1 hr with e1 | hr1 <;> rcases List.mem_cons.1 hs with e2 | hs1
    · rw [e1, e2]
    · have := ha'.1 s hs1; rw [← e1, hk] at this; exact absurd this (List.lt_irrefl _)
    · have := ha'.1 r hr1; rw [← e2, hk] at this; exact absurd this (List.lt_irrefl _)
    · exact ih ha'.2 hr1 hs1
theorem ents_of {cs : List GV} {r0 : List GV} (h : GTy.hasL [.list true [.str, .str], .int .u64] cs) : ∃ r : Row, (Ents r.1 ∧ 0 ≤ r.2 ∧ r.2 < 18446744073709551616) ∧ GV.g cs = row r := by
  obtain ⟨g, l, rfl, h1, h⟩ := hasL_cons h
  obtain ⟨n, l, rfl, h2, h⟩ := hasL_cons h
  obtain rfl := hasL_nil h
  obtain ⟨n, rfl, n1, n2⟩ := has_u64 h2
  obtain ⟨xs, rfl, h3, h4⟩ := has_list h1
  obtain ⟨d, hd, rfl⟩ : ∃ d : List Ent, (∀ x ∈ d, x.1.length ≤ 140737488351232 ∧ x.2.length ≤ 140737488351232) ∧ xs = d.map ent := list_map fun x hx => by
    obtain ⟨k1, k2⟩ := h4 x hx
    cases x <;> simp [GV.scalar] at k2
    obtain ⟨a, l, e1, a1, k1⟩ := hasL_cons k1
    obtain ⟨b, l, rfl, b1, k1⟩ := hasL_cons k1
    obtain rfl := hasL_nil k1
    obtain ⟨s, rfl, s1⟩ := has_str a1
    obtain ⟨u, rfl, u1⟩ := has_str b1
    simp only [cells_g] at e1
    subst e1
    exact ⟨(s, u), ⟨Nat.le_trans s1 (by decide), Nat.le_trans u1 (by decide)⟩, rfl⟩
  exact ⟨(d, n), ⟨⟨by have := Nat.le_trans h3 (by decide : reachBytes ≤ 140737488351232); simpa using this, hd⟩, n1, n2⟩, rfl⟩
theorem rows_of {g : GV} (h : (GTy.list true [.list true [.str, .str], .int .u64]).has g) : ∃ l : List Row, Rows l ∧ g = .l (l.map row) := by
  obtain ⟨xs, rfl, h1, h2⟩ := has_list h
  obtain ⟨l, hl, rfl⟩ : ∃ l : List Row, (∀ r ∈ l, Ents r.1 ∧ 0 ≤ r.2 ∧ r.2 < 18446744073709551616) ∧ xs = l.map row := list_map fun x hx => by
    obtain ⟨k1, k2⟩ := h2 x hx
    cases x <;> simp [GV.scalar] at k2
    obtain ⟨r, hr, e⟩ := ents_of (r0 := []) k1
    exact ⟨r, hr, e⟩
  exact ⟨l, ⟨by have := Nat.le_trans h1 (by decide : reachBytes ≤ 140737488351232); simpa using this, hl⟩, rfl⟩
def chkR : Option (List UInt8) → List Row → Int
  | _, [] => 0
  | p, r :: rs => if rowChk r ≠ 0 then rowChk r else match p with
    | none => chkR (some (K r)) rs
    | some k => if K r = k then 14 else if Op.bytesLess (K r) k = true then 7 else chkR (some (K r)) rs
theorem loop38 (t : List Row) (ht : Rows t) (hf : ∀ r ∈ t, few12 r.1 = true) : ∀ (m i : Nat) (p : List UInt8), i + m = t.length →
    TT.lim 18 [.s p, .l (t.map row), .i .i64 t.length, .i .i64 i] = some (tagged (chkR (if i = 0 then none else some p) (t.drop i)))
  | 0, i, p, hi => by
    have h0 : t.drop i = [] := List.drop_eq_nil_of_le (by omega)
    refine tree_lim rfl rfl ?_
    have h : ¬ ((i : Int) < t.length) := by omega
    simp [h, h0, chkR, tagged]
  | m + 1, i, p, hi => by
    have hlt : i < t.length := by omega
    have hr := ht.2 t[i] (List.getElem_mem hlt)
    have k15 := check15 t[i] hr.1
    have k6 := key6 t[i].1 (hf _ (List.getElem_mem hlt))
    have hrow : GV.g [.l (t[i].1.map ent), .i .u64 t[i].2] = row t[i] := rfl
    have ih : TT.lim 18 [.s (keyF t[i].1), .l (t.map row), .i .i64 t.length, .i .i64 ((i : Int) + 1)] = _ := loop38 t ht hf m (i + 1) (keyF t[i].1) (by omega)
    rw [if_neg (by omega)] at ih
    rw [List.drop_eq_getElem_cons hlt]
    refine tree_lim rfl rfl ?_
    have h : ((i : Int) < t.length) := by omega
    have hw := wrap64 (n := (i : Int) + 1) (by omega) (by have := ht.1; omega)
    by_cases h1 : rowChk t[i] = 0
    rotate_left
    · simp [-List.getElem_cons_drop, h, hlt, hrow, k15, h1, chkR, tagged]
    by_cases h0 : i = 0
    · subst h0
      simp only [Int.natCast_zero, Int.zero_add] at hw ih
      simp [-List.getElem_cons_drop, h, hlt, hrow, k15, h1, k6, hw, chkR]
      have hn : (0 : Int) < (t.length : Int) := by omega
      simpa using ih
    · have hi0 : 0 < i := by omega
      by_cases h2 : keyF t[i].1 = p
      · have h2' : (keyF t[i].1 = p) = True := eq_true h2
        clear h2
        simp [-List.getElem_cons_drop, h, hlt, hrow, k15, h1, k6, hi0, h0, h2', chkR, tagged]
      · cases h3 : Op.bytesLess (keyF t[i].1) p with
        | true => simp [-List.getElem_cons_drop, h, hlt, hrow, k15, h1, k6, hi0, h0, h2, h3, chkR, tagged]
        | false => simp [-List.getElem_cons_drop, h, hlt, hrow, k15, h1, k6, hi0, h0, h2, h3, hw, ih, chkR]
def checkT (t : List Row) : Int := if 256 < t.length then 13 else chkR none t
theorem check37 (t : List Row) (ht : Rows t) (hf : ∀ r ∈ t, few12 r.1 = true) : TT.lim 17 [.l (t.map row)] = some [.i .i64 (checkT t)] := by
  have h38 : TT.lim 18 [.s [], .l (t.map row), .i .i64 t.length, .i .i64 0] = _ := loop38 t ht hf t.length 0 [] (by omega)
  rw [if_pos rfl, List.drop_zero] at h38
  refine fn_lim rfl rfl ?_ rfl
  unfold checkT
  by_cases h1 : 256 < t.length
  · have h1' : (256 : Int) < (t.length : Int) := by omega
    simp [h1, h1']
  · have h1' : ¬ (256 : Int) < (t.length : Int) := by omega
    by_cases h2 : chkR none t = 0
    · simp only [tagged, h2, if_true] at h38
      simp [h1, h1', h38, h2]
    · simp only [tagged, h2, if_false] at h38
      simp [h1, h1', h38, h2]
theorem chkR_rise : ∀ {t : List Row} (p : Option (List UInt8)), Rise t → (∀ r ∈ t, rowChk r = 0) → (∀ k, p = some k → ∀ r ∈ t, k < K r) → chkR p t = 0
  | [], p, _, _, _ => by cases p <;> rfl
  | r :: t, p, ht, hc, hp => by
    have ht' := List.pairwise_cons.1 ht
    have ih := chkR_rise (t := t) (some (K r)) ht'.2 (fun x hx => hc x (by simp [hx])) (fun k hk x hx => by cases hk; exact ht'.1 x hx)
    unfold chkR
    rw [if_neg (by simp [hc r (by simp)])]
    cases p with
    | none => exact ih
    | some k =>
      have hk := hp k rfl r (by simp)
      have h1 : ¬ K r = k := fun e => by rw [e] at hk; exact List.lt_irrefl _ hk
      have h2 : ¬ Op.bytesLess (K r) k = true := fun e => List.lt_irrefl _ (List.lt_trans hk ((bl_iff _ _).1 e))
      simp only
      rw [if_neg h1, if_neg h2]
      exact ih
theorem Rows.perm {l m : List Row} (h : l.Perm m) (hl : Rows l) : Rows m := ⟨by rw [← h.length_eq]; exact hl.1, fun r hr => hl.2 r (h.mem_iff.2 hr)⟩
def cmpK (a b : List UInt8) : Int := if a < b then -1 else if b < a then 1 else 0
theorem compareBytes_eq : ∀ a b : List UInt8, Lib.compareBytes a b = cmpK a b
  | [], [] => by simp [Lib.compareBytes, cmpK]
  | [], _ :: _ => by simp [Lib.compareBytes, cmpK]
  | _ :: _, [] => by simp [Lib.compareBytes, cmpK]
  | x :: a, y :: b => by
    unfold Lib.compareBytes
    rw [compareBytes_eq a b]
    unfold cmpK
    simp only [List.cons_lt_cons_iff]
    by_cases h1 : x < y
    · simp [h1]
    · by_cases h2 : y < x
      · have hne : ¬ x = y := fun e => by subst e; exact UInt8.lt_irrefl _ h2
        simp [h1, h2, hne]
      · have he : x = y := UInt8.le_antisymm (UInt8.not_lt.1 h2) (UInt8.not_lt.1 h1)
        subst he
        simp [UInt8.lt_irrefl]
theorem cmpB_eq (a b : List UInt8) : cmpB a b = cmpK a b := (Lib.cmp_eq _ _).trans (compareBytes_eq a b)
theorem cmp45 (a b : List UInt8) : TT.lim 108 [.s a, .s b] = some [.i .i64 (cmpK a b)] := prim_lim rfl (by rw [← cmpB_eq]; rfl)
theorem cmp44 (d e : List Ent) (hd : few12 d = true) (he : few12 e = true) : TT.lim 107 [.l (d.map ent), .l (e.map ent)] = some [.i .i64 (cmpK (keyF d) (keyF e))] := by
  have k1 := key6 d hd
  have k2 := key6 e he
  have k3 := cmp45 (keyF d) (keyF e)
  refine fn_lim rfl rfl ?_ rfl
  simp [k1, k2, k3]
theorem add46 (x y : Int) (h1 : 0 ≤ x) (h2 : 0 ≤ y) : TT.lim 109 [.i .u64 x, .i .u64 y, .i .u64 0] = some [.i .u64 ((x + y) % 18446744073709551616), .i .u64 ((x + y) / 18446744073709551616)] := prim_lim rfl (by
  unfold add64P
  simp only
  rw [if_pos ⟨h1, h2, by omega, by omega⟩]
  simp only [Int.add_zero])
def val : List Row → List UInt8 → Int
  | [], _ => 0
  | r :: rs, k => if K r = k then r.2 else val rs k
def Pos (t : List Row) : Prop := ∀ r ∈ t, 0 < r.2 ∧ r.2 < 18446744073709551616
theorem val_none : ∀ {t : List Row} {k : List UInt8}, (∀ r ∈ t, K r ≠ k) → val t k = 0
  | [], _, _ => rfl
  | r :: t, k, h => by unfold val; rw [if_neg (h r (by simp))]; exact val_none fun x hx => h x (by simp [hx])
theorem val_mem : ∀ {t : List Row}, Rise t → ∀ r ∈ t, val t (K r) = r.2
  | [], _, r, h => by simp at h
  | x :: t, ht, r, h => by
    have ht' := List.pairwise_cons.1 ht
    unfold val
    rcases List.mem_cons.1 h with rfl | h
    · rw [if_pos rfl]
    · rw [if_neg fun e => by have := ht'.1 r h; rw [e] at this; exact List.lt_irrefl _ this]
      exact val_mem ht'.2 r h
theorem val_cases : ∀ (t : List Row) (k : List UInt8), (∃ r ∈ t, K r = k ∧ val t k = r.2) ∨ ((∀ r ∈ t, K r ≠ k) ∧ val t k = 0)
  | [], k => .inr ⟨by simp, rfl⟩
  | x :: t, k => by
    unfold val
    by_cases h : K x = k
    · exact .inl ⟨x, by simp, h, by rw [if_pos h]⟩
    · rw [if_neg h]
      rcases val_cases t k with ⟨r, h1, h2, h3⟩ | ⟨h1, h2⟩
      · exact .inl ⟨r, by simp [h1], h2, h3⟩
      · refine .inr ⟨fun r hr => ?_, h2⟩
        rcases List.mem_cons.1 hr with rfl | hr
        · exact h
        · exact h1 r hr
theorem val_nonneg {t : List Row} (hp : Pos t) (k : List UInt8) : 0 ≤ val t k ∧ val t k < 18446744073709551616 := by
  rcases val_cases t k with ⟨r, h1, h2, h3⟩ | ⟨h1, h2⟩
  · have := hp r h1; omega
  · omega
theorem val_pos {t : List Row} (hp : Pos t) {k : List UInt8} (h : 0 < val t k) : ∃ r ∈ t, K r = k ∧ val t k = r.2 := by
  rcases val_cases t k with h1 | ⟨h1, h2⟩
  · exact h1
  · omega
theorem val_ext {a b : List Row} (ha : Rise a) (hb : Rise b) (pa : Pos a) (pb : Pos b) (h : ∀ k, val a k = val b k) : a = b := by
  have key : ∀ {a b : List Row}, Rise a → Rise b → Pos a → Pos b → (∀ k, val a k = val b k) → ∀ r ∈ a, r ∈ b := by
    intro a b ha hb pa pb h r hr
    have h1 := val_mem ha r hr
    have h2 := (pa r hr).1
    obtain ⟨s, hs, h3, h4⟩ := val_pos pb (k := K r) (by rw [← h]; omega)
    have : s = r := Prod.ext (keyF_inj h3) (by rw [← h4, ← h, h1])
    rw [← this]; exact hs
  exact rise_eq ha hb (key ha hb pa pb h) (key hb ha pb pa fun k => (h k).symm)
def mergeR : List Row → List Row → Option (List Row)
  | [], b => some b
  | x :: a, [] => some (x :: a)
  | x :: a, y :: b =>
    if K x < K y then (mergeR a (y :: b)).map (x :: ·)
    else if K y < K x then (mergeR (x :: a) b).map (y :: ·)
    else if x.2 + y.2 < 18446744073709551616 then (mergeR a b).map ((x.1, x.2 + y.2) :: ·) else none
termination_by a b => a.length + b.length
def Keys (a b m : List Row) : Prop := ∀ r ∈ m, ∃ s, (s ∈ a ∨ s ∈ b) ∧ s.1 = r.1
theorem merge_some : ∀ (a b : List Row) {m : List Row}, Rise a → Rise b → Pos a → Pos b → mergeR a b = some m → Rise m ∧ (∀ k, val m k = val a k + val b k) ∧ Keys a b m ∧ Pos m := by
  intro a b
  induction a, b using mergeR.induct with
  | case1 b =>
    intro m ha hb pa pb h
    rw [mergeR] at h; cases h
    exact ⟨hb, fun k => by simp [val], fun r hr => ⟨r, .inr hr, rfl⟩, pb⟩
  | case2 x a =>
    intro m ha hb pa pb h
    rw [mergeR] at h; cases h
    exact ⟨ha, fun k => by simp [val], fun r hr => ⟨r, .inl hr, rfl⟩, pa⟩
  | case3 x a y b hlt ih =>
    intro m ha hb pa pb h
    rw [mergeR, if_pos hlt] at h
    obtain ⟨m', h', rfl⟩ := Option.map_eq_some_iff.1 h
    have ha' := List.pairwise_cons.1 ha
    have hb' := List.pairwise_cons.1 hb
    obtain ⟨h1, h2, h3, h4⟩ := ih ha'.2 hb (fun r hr => pa r (by simp [hr])) pb h'
    have hx : ∀ s, s ∈ a ∨ s ∈ y :: b → K x < K s := by
      rintro s (hs | hs)
      · exact ha'.1 s hs
      · rcases List.mem_cons.1 hs with rfl | hs
        · exact hlt
        · exact List.lt_trans hlt (hb'.1 s hs)
    refine ⟨List.Pairwise.cons (fun r hr => ?_) h1, fun k => ?_, fun r hr => ?_, fun r hr => ?_⟩
    · obtain ⟨s, hs, e⟩ := h3 r hr
      have := hx s hs
      show K x < keyF r.1
      rw [← e]; exact this
    · show (if K x = k then x.2 else val m' k) = (if K x = k then x.2 else val a k) + val (y :: b) k
      split
      · next e =>
        rw [val_none (t := y :: b) fun r hr e2 => by have := hx r (.inr hr); rw [e, e2] at this; exact List.lt_irrefl _ this]
        omega
      · exact h2 k
    · rcases List.mem_cons.1 hr with rfl | hr
      · exact ⟨r, .inl (by simp), rfl⟩
      · obtain ⟨s, hs, e⟩ := h3 r hr
        exact ⟨s, hs.imp (fun h => by simp [h]) id, e⟩
    · rcases List.mem_cons.1 hr with rfl | hr
      · exact pa r (by simp)
      · exact h4 r hr
  | case4 x a y b hlt hgt ih =>
    intro m ha hb pa pb h
    rw [mergeR, if_neg hlt, if_pos hgt] at h
    obtain ⟨m', h', rfl⟩ := Option.map_eq_some_iff.1 h
    have ha' := List.pairwise_cons.1 ha
    have hb' := List.pairwise_cons.1 hb
    obtain ⟨h1, h2, h3, h4⟩ := ih ha hb'.2 pa (fun r hr => pb r (by simp [hr])) h'
    have hx : ∀ s, s ∈ x :: a ∨ s ∈ b → K y < K s := by
      rintro s (hs | hs)
      · rcases List.mem_cons.1 hs with rfl | hs
        · exact hgt
        · exact List.lt_trans hgt (ha'.1 s hs)
      · exact hb'.1 s hs
    refine ⟨List.Pairwise.cons (fun r hr => ?_) h1, fun k => ?_, fun r hr => ?_, fun r hr => ?_⟩
    · obtain ⟨s, hs, e⟩ := h3 r hr
      have := hx s hs
      show K y < keyF r.1
      rw [← e]; exact this
    · show (if K y = k then y.2 else val m' k) = val (x :: a) k + (if K y = k then y.2 else val b k)
      split
      · next e =>
        rw [val_none (t := x :: a) fun r hr e2 => by have := hx r (.inl hr); rw [e, e2] at this; exact List.lt_irrefl _ this]
        omega
      · exact h2 k
    · rcases List.mem_cons.1 hr with rfl | hr
      · exact ⟨r, .inr (by simp), rfl⟩
      · obtain ⟨s, hs, e⟩ := h3 r hr
        exact ⟨s, hs.imp id (fun h => by simp [h]), e⟩
    · rcases List.mem_cons.1 hr with rfl | hr
      · exact pb r (by simp)
      · exact h4 r hr
  | case5 x a y b hlt hgt hs ih =>
    intro m ha hb pa pb h
    rw [mergeR, if_neg hlt, if_neg hgt, if_pos hs] at h
    obtain ⟨m', h', rfl⟩ := Option.map_eq_some_iff.1 h
    have ha' := List.pairwise_cons.1 ha
    have hb' := List.pairwise_cons.1 hb
    have he : K x = K y := List.le_antisymm (List.not_lt.1 hgt) (List.not_lt.1 hlt)
    obtain ⟨h1, h2, h3, h4⟩ := ih ha'.2 hb'.2 (fun r hr => pa r (by simp [hr])) (fun r hr => pb r (by simp [hr])) h'
    have hx : ∀ s, s ∈ a ∨ s ∈ b → K x < K s := by
      rintro s (hs | hs)
      · exact ha'.1 s hs
      · rw [he]; exact hb'.1 s hs
    refine ⟨List.Pairwise.cons (fun r hr => ?_) h1, fun k => ?_, fun r hr => ?_, fun r hr => ?_⟩
    · obtain ⟨s, hs, e⟩ := h3 r hr
      have := hx s hs
      show keyF x.1 < keyF r.1
      rw [← e]; exact this
    · show (if K x = k then x.2 + y.2 else val m' k) = (if K x = k then x.2 else val a k) + (if K y = k then y.2 else val b k)
      rw [he]
      split
      · rfl
      · exact h2 k
    · rcases List.mem_cons.1 hr with rfl | hr
      · exact ⟨x, .inl (by simp), rfl⟩
      · obtain ⟨s, hs, e⟩ := h3 r hr
        exact ⟨s, hs.imp (fun h => by simp [h]) (fun h => by simp [h]), e⟩
    · rcases List.mem_cons.1 hr with rfl | hr
      · have q1 := pa x (by simp); have q2 := pb y (by simp)
        exact ⟨by simp only; omega, hs⟩
      · exact h4 r hr
  | case6 x a y b hlt hgt hs =>
    intro m ha hb pa pb h
    rw [mergeR, if_neg hlt, if_neg hgt, if_neg hs] at h; cases h
theorem val_above {t : List Row} {k : List UInt8} (h : ∀ r ∈ t, k < K r) : val t k = 0 := val_none fun r hr e => by have := h r hr; rw [e] at this; exact List.lt_irrefl _ this
theorem merge_none : ∀ (a b : List Row), Rise a → Rise b → mergeR a b = none → ∃ k, 18446744073709551616 ≤ val a k + val b k := by
  intro a b
  induction a, b using mergeR.induct with
  | case1 b => intro ha hb h; rw [mergeR] at h; cases h
  | case2 x a => intro ha hb h; rw [mergeR] at h; cases h
  | case3 x a y b hlt ih =>
    intro ha hb h
    rw [mergeR, if_pos hlt] at h
    have ha' := List.pairwise_cons.1 ha
    have hb' := List.pairwise_cons.1 hb
    obtain ⟨k, hk⟩ := ih ha'.2 hb (Option.map_eq_none_iff.1 h)
    refine ⟨k, ?_⟩
    by_cases e : K x = k
    · exfalso
      subst e
      rw [val_above ha'.1, val_above (t := y :: b) fun r hr => ?_] at hk
      · omega
      · rcases List.mem_cons.1 hr with rfl | hr
        · exact hlt
        · exact List.lt_trans hlt (hb'.1 r hr)
    · show _ ≤ (if K x = k then x.2 else val a k) + _
      rw [if_neg e]; exact hk
  | case4 x a y b hlt hgt ih =>
    intro ha hb h
    rw [mergeR, if_neg hlt, if_pos hgt] at h
    have ha' := List.pairwise_cons.1 ha
    have hb' := List.pairwise_cons.1 hb
    obtain ⟨k, hk⟩ := ih ha hb'.2 (Option.map_eq_none_iff.1 h)
    refine ⟨k, ?_⟩
    by_cases e : K y = k
    · exfalso
      subst e
      rw [val_above hb'.1, val_above (t := x :: a) fun r hr => ?_] at hk
      · omega
      · rcases List.mem_cons.1 hr with rfl | hr
        · exact hgt
        · exact List.lt_trans hgt (ha'.1 r hr)
    · show _ ≤ _ + (if K y = k then y.2 else val b k)
      rw [if_neg e]; exact hk
  | case5 x a y b hlt hgt hs ih =>
    intro ha hb h
    rw [mergeR, if_neg hlt, if_neg hgt, if_pos hs] at h
    have ha' := List.pairwise_cons.1 ha
    have hb' := List.pairwise_cons.1 hb
    have he : K x = K y := List.le_antisymm (List.not_lt.1 hgt) (List.not_lt.1 hlt)
    obtain ⟨k, hk⟩ := ih ha'.2 hb'.2 (Option.map_eq_none_iff.1 h)
    refine ⟨k, ?_⟩
    by_cases e : K x = k
    · exfalso
      subst e
      rw [val_above ha'.1, val_above (t := b) fun r hr => by rw [he]; exact hb'.1 r hr] at hk
      omega
    · show _ ≤ (if K x = k then x.2 else val a k) + (if K y = k then y.2 else val b k)
      rw [if_neg e, ← he, if_neg e]; exact hk
  | case6 x a y b hlt hgt hs =>
    intro ha hb h
    have he : K x = K y := List.le_antisymm (List.not_lt.1 hgt) (List.not_lt.1 hlt)
    refine ⟨K x, ?_⟩
    show _ ≤ (if K x = K x then x.2 else val a _) + (if K y = K x then y.2 else val b _)
    rw [if_pos rfl, if_pos he.symm]; omega
/-- Lengths, by keys. -/
theorem rise_len : ∀ {a b : List Row}, Rise a → Rise b → (∀ r ∈ a, ∃ s ∈ b, K s = K r) → a.length ≤ b.length
  | [], _, _, _, _ => Nat.zero_le _
  | _ :: _, [], _, _, h => by obtain ⟨s, hs, _⟩ := h _ (List.mem_cons_self ..); simp at hs
  | x :: a, y :: b, ha, hb, h => by
    have ha' := List.pairwise_cons.1 ha
    have hb' := List.pairwise_cons.1 hb
    have hxy : K y = K x ∨ K y < K x := by
      obtain ⟨s, hs, e⟩ := h x (by simp)
      rcases List.mem_cons.1 hs with rfl | hs
      · exact .inl e
      · right; rw [← e]; exact hb'.1 s hs
    have := rise_len ha'.2 hb'.2 fun r hr => by
      obtain ⟨s, hs, e⟩ := h r (by simp [hr])
      rcases List.mem_cons.1 hs with rfl | hs
      · have h1 := ha'.1 r hr
        rw [← e] at h1
        rcases hxy with e2 | e2
        · rw [e2] at h1; exact absurd h1 (List.lt_irrefl _)
        · exact absurd (List.lt_trans h1 e2) (List.lt_irrefl _)
      · exact ⟨s, hs, e⟩
    simp only [List.length_cons]; omega
theorem lsub_tail (x : GV) (l : List Row) (n : Int) (hx : x.cells.length = 2) (hn : n = l.length + 1) : lsub3 2 (some (.l (x :: l.map row))) (some (.i .i64 1)) (some (.i .i64 n)) = some (.l (l.map row)) := by
  subst hn
  rw [lsub3_i, if_pos ⟨by omega, by omega, by simp, by rw [List.all_cons]; simp [hx, row_cells]⟩]
  · congr 2
    have h1 : ((l.length : Int) + 1).toNat = l.length + 1 := by omega
    rw [h1, List.take_of_length_le (by simp)]; rfl
def outM (acc : List Row) : Option (List Row) → List GV
  | some m => [.i .i64 1, .l ((acc ++ m).map row)]
  | none => [.i .i64 0]
theorem few40 {d : List Ent} (h : few12 d = true) : d.length ≤ 40 := by
  unfold few12 at h; simp at h; omega
theorem cmpK_lt {a b : List UInt8} (h : a < b) : cmpK a b = -1 := by unfold cmpK; rw [if_pos h]
theorem cmpK_gt {a b : List UInt8} (h1 : ¬ a < b) (h : b < a) : cmpK a b = 1 := by unfold cmpK; rw [if_neg h1, if_pos h]
theorem cmpK_eq {a b : List UInt8} (h1 : ¬ a < b) (h : ¬ b < a) : cmpK a b = 0 := by unfold cmpK; rw [if_neg h1, if_neg h]
def Few (t : List Row) : Prop := ∀ r ∈ t, few12 r.1 = true
set_option maxHeartbeats 4000000 in
theorem loop43 : ∀ (n : Nat) (a b acc : List Row), a.length + b.length ≤ n → acc.length + a.length + b.length ≤ 1000 → Few a → Few b → (∀ r ∈ a, 0 ≤ r.2 ∧ r.2 < 18446744073709551616) → (∀ r ∈ b, 0 ≤ r.2 ∧ r.2 < 18446744073709551616) →
    TT.lim 106 [.l (a.map row), .l (b.map row), .l (acc.map row)] = some (outM acc (mergeR a b)) := by
  intro n
  induction n with
  | zero =>
    intro a b acc hn hb fa fb va vb
    obtain rfl : a = [] := List.eq_nil_of_length_eq_zero (by omega)
    obtain rfl : b = [] := List.eq_nil_of_length_eq_zero (by omega)
    rw [mergeR]
    refine tree_lim rfl rfl ?_
    simp [outM]
  | succ n ih =>
    intro a b acc hn hb fa fb va vb
    cases a with
    | nil =>
      cases b with
      | nil =>
        rw [mergeR]
        refine tree_lim rfl rfl ?_
        simp [outM]
      | cons y b =>
        simp only [List.length_nil, List.length_cons, Nat.zero_add] at hn hb
        have ih' := ih [] b (acc ++ [y]) (by simp; omega) (by simp; omega) fa (fun r hr => fb r (by simp [hr])) va (fun r hr => vb r (by simp [hr]))
        rw [mergeR] at ih' ⊢
        simp only [outM, List.append_assoc, List.singleton_append, List.map_append, List.map_cons, List.map_nil] at ih' ⊢
        have kc := clone23 y.1 (few40 (fb y (by simp)))
        have hrow : GV.g [.l (y.1.map ent), .i .u64 y.2] = row y := rfl
        have hok : (row y).elemOk 2 = true := rfl
        have hl := lsub_tail (row y) b ((b.length : Int) + 1) rfl rfl
        have hbb : 2 * (acc.length + 1) * 32 ≤ 281474976710656 ∧ acc.length + 1 ≤ 281474976710656 := by omega
        have hp : (0 : Int) < (b.length : Int) + 1 := by omega
        have hp2 : ¬ ((b.length : Int) + 1 = 0) := by omega
        refine tree_lim rfl rfl ?_
        simp [-lsub3_i, kc, hrow, hok, hl, hbb, hp, hp2, ih']
    | cons x a =>
      cases b with
      | nil =>
        simp only [List.length_nil, List.length_cons, Nat.add_zero] at hn hb
        have ih' := ih a [] (acc ++ [x]) (by simp; omega) (by simp; omega) (fun r hr => fa r (by simp [hr])) fb (fun r hr => va r (by simp [hr])) vb
        have hm : mergeR a [] = some a := by cases a <;> rw [mergeR]
        rw [hm] at ih'
        rw [mergeR]
        simp only [outM, List.append_assoc, List.singleton_append, List.map_append, List.map_cons, List.map_nil] at ih' ⊢
        have kc := clone23 x.1 (few40 (fa x (by simp)))
        have hrow : GV.g [.l (x.1.map ent), .i .u64 x.2] = row x := rfl
        have hok : (row x).elemOk 2 = true := rfl
        have hl := lsub_tail (row x) a ((a.length : Int) + 1) rfl rfl
        have hbb : 2 * (acc.length + 1) * 32 ≤ 281474976710656 ∧ acc.length + 1 ≤ 281474976710656 := by omega
        have hp : (0 : Int) < (a.length : Int) + 1 := by omega
        have hp2 : ¬ ((a.length : Int) + 1 = 0) := by omega
        refine tree_lim rfl rfl ?_
        simp [-lsub3_i, kc, hrow, hok, hl, hbb, hp, hp2, ih']
      | cons y b =>
        simp only [List.length_cons] at hn hb
        have fx := fa x (by simp)
        have fy := fb y (by simp)
        have kcx := clone23 x.1 (few40 fx)
        have kcy := clone23 y.1 (few40 fy)
        have hrx : GV.g [.l (x.1.map ent), .i .u64 x.2] = row x := rfl
        have hry : GV.g [.l (y.1.map ent), .i .u64 y.2] = row y := rfl
        have hrs : GV.g [.l (x.1.map ent), .i .u64 (x.2 + y.2)] = row (x.1, x.2 + y.2) := rfl
        have hok : ∀ r : Row, (row r).elemOk 2 = true := fun r => rfl
        have hlx := lsub_tail (row x) a ((a.length : Int) + 1) rfl rfl
        have hly := lsub_tail (row y) b ((b.length : Int) + 1) rfl rfl
        have hbb : 2 * (acc.length + 1) * 32 ≤ 281474976710656 ∧ acc.length + 1 ≤ 281474976710656 := by omega
        have hp : (0 : Int) < (a.length : Int) + 1 := by omega
        have hp2 : ¬ ((a.length : Int) + 1 = 0) := by omega
        have hq : (0 : Int) < (b.length : Int) + 1 := by omega
        have hq2 : ¬ ((b.length : Int) + 1 = 0) := by omega
        have kcmp := cmp44 x.1 y.1 fx fy
        have kadd := add46 x.2 y.2 (va x (by simp)).1 (vb y (by simp)).1
        have vx := va x (by simp)
        have vy := vb y (by simp)
        by_cases h1 : K x < K y
        · have ih' := ih a (y :: b) (acc ++ [x]) (by simp; omega) (by simp; omega) (fun r hr => fa r (by simp [hr])) fb (fun r hr => va r (by simp [hr])) vb
          rw [mergeR, if_pos h1]
          rw [cmpK_lt h1] at kcmp
          have e : outM (acc ++ [x]) (mergeR a (y :: b)) = outM acc ((mergeR a (y :: b)).map (x :: ·)) := by cases mergeR a (y :: b) <;> simp [outM]
          rw [e] at ih'
          generalize outM acc ((mergeR a (y :: b)).map (x :: ·)) = out at ih' ⊢
          simp only [List.map_append, List.map_cons, List.map_nil] at ih'
          refine tree_lim rfl rfl ?_
          simp [-lsub3_i, kcx, kcy, hrx, hry, hok, hlx, hly, hbb, hp, hp2, hq, hq2, kcmp, ih']
        by_cases h2 : K y < K x
        · have ih' := ih (x :: a) b (acc ++ [y]) (by simp; omega) (by simp; omega) fa (fun r hr => fb r (by simp [hr])) va (fun r hr => vb r (by simp [hr]))
          rw [mergeR, if_neg h1, if_pos h2]
          rw [cmpK_gt h1 h2] at kcmp
          have e : outM (acc ++ [y]) (mergeR (x :: a) b) = outM acc ((mergeR (x :: a) b).map (y :: ·)) := by cases mergeR (x :: a) b <;> simp [outM]
          rw [e] at ih'
          generalize outM acc ((mergeR (x :: a) b).map (y :: ·)) = out at ih' ⊢
          simp only [List.map_append, List.map_cons, List.map_nil] at ih'
          refine tree_lim rfl rfl ?_
          simp [-lsub3_i, kcx, kcy, hrx, hry, hok, hlx, hly, hbb, hp, hp2, hq, hq2, kcmp, ih']
        rw [mergeR, if_neg h1, if_neg h2]
        rw [cmpK_eq h1 h2] at kcmp
        by_cases h3 : x.2 + y.2 < 18446744073709551616
        · have ih' := ih a b (acc ++ [(x.1, x.2 + y.2)]) (by omega) (by simp; omega) (fun r hr => fa r (by simp [hr])) (fun r hr => fb r (by simp [hr])) (fun r hr => va r (by simp [hr])) (fun r hr => vb r (by simp [hr]))
          rw [if_pos h3]
          have e : outM (acc ++ [(x.1, x.2 + y.2)]) (mergeR a b) = outM acc ((mergeR a b).map ((x.1, x.2 + y.2) :: ·)) := by cases mergeR a b <;> simp [outM]
          rw [e] at ih'
          generalize outM acc ((mergeR a b).map ((x.1, x.2 + y.2) :: ·)) = out at ih' ⊢
          simp only [List.map_append, List.map_cons, List.map_nil] at ih'
          rw [show (x.2 + y.2) % 18446744073709551616 = x.2 + y.2 by omega, show (x.2 + y.2) / 18446744073709551616 = 0 by omega] at kadd
          refine tree_lim rfl rfl ?_
          simp [-lsub3_i, kcx, kcy, hrx, hry, hrs, hok, hlx, hly, hbb, hp, hp2, hq, hq2, kcmp, kadd, ih']
        · rw [if_neg h3]
          rw [show (x.2 + y.2) / 18446744073709551616 = 1 by omega] at kadd
          refine tree_lim rfl rfl ?_
          simp [-lsub3_i, kcx, kcy, hrx, hry, hok, hlx, hly, hbb, hp, hp2, hq, hq2, kcmp, kadd, outM]
def Ok (t : List Row) : Prop := t.length ≤ 256 ∧ Rise t ∧ ∀ r ∈ t, rowChk r = 0
theorem chkR_inv : ∀ {t : List Row} (p : Option (List UInt8)), chkR p t = 0 → Rise t ∧ (∀ r ∈ t, rowChk r = 0) ∧ ∀ k, p = some k → ∀ r ∈ t, k < K r
  | [], p, _ => ⟨List.Pairwise.nil, by simp, by simp⟩
  | r :: t, p, h => by
    unfold chkR at h
    by_cases h1 : rowChk r = 0
    rotate_left
    · rw [if_pos h1] at h; exact absurd h h1
    rw [if_neg (by simp [h1])] at h
    have main : ∀ (h : chkR (some (K r)) t = 0), Rise (r :: t) ∧ ∀ x ∈ r :: t, rowChk x = 0 := by
      intro h
      obtain ⟨i1, i2, i3⟩ := chkR_inv (some (K r)) h
      refine ⟨List.Pairwise.cons (i3 _ rfl) i1, fun x hx => ?_⟩
      rcases List.mem_cons.1 hx with rfl | hx
      · exact h1
      · exact i2 x hx
    cases p with
    | none => exact ⟨(main h).1, (main h).2, by simp⟩
    | some k =>
      simp only at h
      split at h
      · cases h
      next h2 =>
      split at h
      · cases h
      next h3 =>
      refine ⟨(main h).1, (main h).2, ?_⟩
      rintro _ ⟨⟩ x hx
      have hk : k < K r := by
        rcases List.le_iff_lt_or_eq.1 (List.not_lt.1 fun e => h3 ((bl_iff _ _).2 e)) with e | e
        · exact e
        · exact absurd e.symm h2
      rcases List.mem_cons.1 hx with rfl | hx
      · exact hk
      · exact List.lt_trans hk ((List.pairwise_cons.1 (main h).1).1 x hx)
theorem checkT_iff (t : List Row) : checkT t = 0 ↔ Ok t := by
  unfold checkT Ok
  constructor
  · intro h
    split at h
    · cases h
    · obtain ⟨h1, h2, _⟩ := chkR_inv none h
      exact ⟨by omega, h1, h2⟩
  · rintro ⟨h1, h2, h3⟩
    rw [if_neg (by omega)]
    exact chkR_rise none h2 h3 (by simp)
theorem rowChk_iff (r : Row) : rowChk r = 0 ↔ descrChk r.1 = 0 ∧ r.2 ≠ 0 := by
  unfold rowChk
  by_cases h : descrChk r.1 = 0
  · simp [h]
  · simp [h]
structure Tb (t : List Row) : Prop where
  ok : Ok t
  rows : Rows t
  few : Few t
theorem Tb.pos {t : List Row} (h : Tb t) : Pos t := fun r hr => by
  have h1 := ((rowChk_iff r).1 (h.ok.2.2 r hr)).2
  have h2 := (h.rows.2 r hr).2
  omega
theorem Tb.rise {t : List Row} (h : Tb t) : Rise t := h.ok.2.1
theorem tb_nil : Tb [] := ⟨⟨by simp, List.Pairwise.nil, by simp⟩, ⟨by simp, by simp⟩, fun r hr => by simp at hr⟩
/-- Rows of descriptors of such tables. -/
theorem tb_of {a b m : List Row} (ha : Tb a) (hb : Tb b) (hl : m.length ≤ 256) (hr : Rise m) (hk : Keys a b m) (hp : Pos m) : Tb m := by
  have src : ∀ r ∈ m, descrChk r.1 = 0 ∧ Ents r.1 ∧ few12 r.1 = true := by
    intro r hr
    obtain ⟨s, hs, e⟩ := hk r hr
    rw [← e]
    rcases hs with hs | hs
    · exact ⟨((rowChk_iff s).1 (ha.ok.2.2 s hs)).1, (ha.rows.2 s hs).1, ha.few s hs⟩
    · exact ⟨((rowChk_iff s).1 (hb.ok.2.2 s hs)).1, (hb.rows.2 s hs).1, hb.few s hs⟩
  refine ⟨⟨hl, hr, fun r hr => (rowChk_iff r).2 ⟨(src r hr).1, by have := hp r hr; omega⟩⟩, ⟨by omega, fun r hr => ⟨(src r hr).2.1, ?_⟩⟩, fun r hr => (src r hr).2.2⟩
  have := hp r hr; omega
def tog (a b : List Row) : List Row × Int := match mergeR a b with
  | none => ([], 3)
  | some m => if 256 < m.length then ([], 13) else (m, 0)
structure GoodT (t : List Row) : Prop where
  len : t.length ≤ 300
  few : Few t
  rows : Rows t
theorem Tb.good {t : List Row} (h : Tb t) : GoodT t := ⟨Nat.le_trans h.ok.1 (by decide), h.few, h.rows⟩
theorem together42 (a b : List Row) (ha : GoodT a) (hb : GoodT b) : TT.lim 105 [.l (a.map row), .l (b.map row)] = some [.l ((tog a b).1.map row), .i .i64 (tog a b).2] := by
  have k := loop43 (a.length + b.length) a b [] (Nat.le_refl _) (by have := ha.len; have := hb.len; simp; omega) ha.few hb.few (fun r hr => (ha.rows.2 r hr).2) (fun r hr => (hb.rows.2 r hr).2)
  have hl1 := ha.len
  have hl2 := hb.len
  have hw := wrap64 (n := (a.length : Int) + (b.length : Int)) (by omega) (by omega)
  have hok : (GV.g [.l [], .i .u64 0]).elemOk 2 = true := rfl
  have hc : (0 : Int) ≤ (a.length : Int) + (b.length : Int) ∧ 32 * ((a.length : Int) + (b.length : Int)) ≤ 281474976710656 ∧ (a.length : Int) + (b.length : Int) ≤ 1152921504606846976 := by omega
  unfold tog
  cases hm : mergeR a b with
  | none =>
    rw [hm] at k
    simp only [outM, List.map_nil] at k
    refine fn_lim rfl rfl ?_ rfl
    simp [hw, hok, hc, k]
  | some m =>
    rw [hm] at k
    simp only [outM, List.map_nil, List.nil_append] at k
    by_cases h : 256 < m.length
    · have h' : (256 : Int) < (m.length : Int) := by omega
      refine fn_lim rfl rfl ?_ rfl
      simp [hw, hok, hc, k, h, h']
    · have h' : ¬ (256 : Int) < (m.length : Int) := by omega
      simp only [if_neg h]
      refine fn_lim rfl rfl ?_ rfl
      simp [hw, hok, hc, k, h']
theorem tog_ok {a b : List Row} (ha : Tb a) (hb : Tb b) (h : (tog a b).2 = 0) : Tb (tog a b).1 ∧ ∀ k, val (tog a b).1 k = val a k + val b k := by
  unfold tog at h ⊢
  cases hm : mergeR a b with
  | none => rw [hm] at h; cases h
  | some m =>
    rw [hm] at h
    simp only at h ⊢
    split at h
    · cases h
    next hl =>
    rw [if_neg hl]
    obtain ⟨h1, h2, h3, h4⟩ := merge_some a b ha.rise hb.rise ha.pos hb.pos hm
    exact ⟨tb_of ha hb (Nat.not_lt.1 hl) h1 h3 h4, h2⟩
/-- What two ways of adding up come to. -/
theorem tog_val {a b c d : List Row} (ha : Tb a) (hb : Tb b) (hc : Tb c) (hd : Tb d) (h : ∀ k, val a k + val b k = val c k + val d k) : tog a b = tog c d := by
  have key : ∀ {a b c d : List Row}, Tb a → Tb b → Tb c → Tb d → (∀ k, val a k + val b k = val c k + val d k) → mergeR a b = none → ∀ m, mergeR c d = some m → False := by
    intro a b c d ha hb hc hd h h1 m h2
    obtain ⟨k, hk⟩ := merge_none a b ha.rise hb.rise h1
    obtain ⟨_, q2, _, q4⟩ := merge_some c d hc.rise hd.rise hc.pos hd.pos h2
    have := val_nonneg q4 k
    rw [q2, ← h] at this
    omega
  unfold tog
  cases h1 : mergeR a b with
  | none =>
    cases h2 : mergeR c d with
    | none => rfl
    | some m => exact (key ha hb hc hd h h1 m h2).elim
  | some m =>
    cases h2 : mergeR c d with
    | none => exact (key hc hd ha hb (fun k => (h k).symm) h2 m h1).elim
    | some m' =>
      obtain ⟨p1, p2, _, p4⟩ := merge_some a b ha.rise hb.rise ha.pos hb.pos h1
      obtain ⟨q1, q2, _, q4⟩ := merge_some c d hc.rise hd.rise hc.pos hd.pos h2
      rw [val_ext p1 q1 p4 q4 fun k => by rw [p2, q2, h]]
abbrev Dl := Int × Int × List Row
def dl (d : Dl) : GV := .g [.i .u64 d.1, .i .u64 d.2.1, .l (d.2.2.map row)]
@[simp] theorem dl_cells (d : Dl) : (dl d).cells = [.i .u64 d.1, .i .u64 d.2.1, .l (d.2.2.map row)] := rfl
@[simp] theorem dl_scalar (d : Dl) : (dl d).scalar = false := rfl
def zD : Dl := (0, 0, [])
def chkD (d : Dl) : Int := if d.2.1 ≤ d.1 then 20 else checkT d.2.2
theorem check41 (d : Dl) (h : GoodT d.2.2) : TT.lim 104 [dl d] = some [.i .i64 (chkD d)] := by
  have k := check37 d.2.2 h.rows h.few
  unfold chkD
  refine fn_lim rfl rfl ?_ rfl
  by_cases h1 : d.2.1 ≤ d.1
  · simp [h1]
  · simp [h1, k]
theorem chkD_ok {d : Dl} (h : chkD d = 0) : d.1 < d.2.1 ∧ Ok d.2.2 := by
  unfold chkD at h
  split at h
  · cases h
  · exact ⟨by omega, (checkT_iff _).1 h⟩
theorem chkD_of {d : Dl} (h1 : d.1 < d.2.1) (h2 : Ok d.2.2) : chkD d = 0 := by
  unfold chkD
  rw [if_neg (by omega)]; exact (checkT_iff _).2 h2
theorem GoodT.tb {t : List Row} (h : GoodT t) (ho : Ok t) : Tb t := ⟨ho, h.rows, h.few⟩
theorem good_of {l : List Row} (hl : Rows l) (h : few13 l = true) : GoodT l := by
  refine ⟨?_, fun r hr => few13_few h r hr, hl⟩
  unfold few13 at h
  rw [Bool.and_eq_true, decide_eq_true_iff] at h
  exact h.2
def diffR : List Row → List Row → List Row
  | [], _ => []
  | r :: rs, [] => if r.2 = 0 then diffR rs [] else r :: diffR rs []
  | r :: rs, l :: ls => if K l = K r then (if IntKind.u64.wrap (r.2 - l.2) = 0 then diffR rs ls else (r.1, IntKind.u64.wrap (r.2 - l.2)) :: diffR rs ls) else if r.2 = 0 then diffR rs (l :: ls) else r :: diffR rs (l :: ls)
theorem cmpK_self (a : List UInt8) : cmpK a a = 0 := by unfold cmpK; simp [List.lt_irrefl]
theorem cmpK_ne {a b : List UInt8} (h : a ≠ b) : cmpK a b ≠ 0 := by
  unfold cmpK
  split
  · omega
  next h1 =>
  split
  · omega
  next h2 => exact absurd (List.le_antisymm (List.not_lt.1 h2) (List.not_lt.1 h1)) h
set_option maxHeartbeats 4000000 in
theorem loop50 (t : List Row) (e f : Int) (ht : t.length ≤ 300) (ft : Few t) : ∀ (m i : Nat) (b acc : List Row), i + m = t.length → acc.length ≤ i → Few b →
    TT.lim 122 [.l (b.map row), .l (t.map row), .i .i64 t.length, .i .i64 i, .i .u64 e, .i .u64 f, .l (acc.map row)] = some [.i .i64 0, .l ((acc ++ diffR (t.drop i) b).map row)]
  | 0, i, b, acc, hi, ha, fb => by
    have h0 : t.drop i = [] := List.drop_eq_nil_of_le (by omega)
    refine tree_lim rfl rfl ?_
    have h : ¬ ((i : Int) < t.length) := by omega
    simp [h, h0, diffR]
  | m + 1, i, b, acc, hi, ha, fb => by
    have hlt : i < t.length := by omega
    have fr := ft t[i] (List.getElem_mem hlt)
    have kc := clone23 t[i].1 (few40 fr)
    have hrow : GV.g [.l (t[i].1.map ent), .i .u64 t[i].2] = row t[i] := rfl
    have hok : ∀ r : Row, (row r).elemOk 2 = true := fun r => rfl
    have hbb : 2 * (acc.length + 1) * 32 ≤ 281474976710656 ∧ acc.length + 1 ≤ 281474976710656 := by omega
    have h : ((i : Int) < t.length) := by omega
    have hw := wrap64 (n := (i : Int) + 1) (by omega) (by omega)
    have ih1 : ∀ b', Few b' → TT.lim 122 [.l (b'.map row), .l (t.map row), .i .i64 t.length, .i .i64 ((i : Int) + 1), .i .u64 e, .i .u64 f, .l (acc.map row)] = _ := fun b' fb' => loop50 t e f ht ft m (i + 1) b' acc (by omega) (by omega) fb'
    have ih2 : ∀ b' r, Few b' → TT.lim 122 [.l (b'.map row), .l (t.map row), .i .i64 t.length, .i .i64 ((i : Int) + 1), .i .u64 e, .i .u64 f, .l ((acc ++ [r]).map row)] = _ := fun b' r fb' => loop50 t e f ht ft m (i + 1) b' (acc ++ [r]) (by omega) (by simp; omega) fb'
    have hdr : t.drop i = t[i] :: t.drop (i + 1) := List.drop_eq_getElem_cons hlt
    rw [hdr]
    cases b with
    | nil =>
      by_cases h1 : t[i].2 = 0
      · have ih := ih1 [] fb
        simp only [List.map_nil] at ih
        simp only [diffR]
        rw [if_pos h1]
        have h1' : (t[i].2 = 0) = True := eq_true h1
        clear h1
        refine tree_lim rfl rfl ?_
        simp [-List.getElem_cons_drop, h, hlt, h1', hw, ih]
      · have ih := ih2 [] t[i] fb
        simp only [List.map_nil, List.map_append, List.map_cons] at ih
        simp only [diffR]
        rw [if_neg h1]
        refine tree_lim rfl rfl ?_
        simp [-List.getElem_cons_drop, h, hlt, h1, hw, kc, hrow, hok, hbb, ih]
    | cons l ls =>
      have fl := fb l (by simp)
      have fls : Few ls := fun r hr => fb r (by simp [hr])
      have hl := lsub_tail (row l) ls ((ls.length : Int) + 1) rfl rfl
      have hp : (0 : Int) < (ls.length : Int) + 1 := by omega
      have kcmp := cmp44 l.1 t[i].1 fl fr
      by_cases h2 : K l = K t[i]
      · rw [show keyF l.1 = keyF t[i].1 from h2, cmpK_self] at kcmp
        simp only [diffR]
        rw [if_pos h2]
        by_cases h1 : IntKind.u64.wrap (t[i].2 - l.2) = 0
        · have ih := ih1 ls fls
          rw [if_pos h1]
          refine tree_lim rfl rfl ?_
          simp [-List.getElem_cons_drop, -lsub3_i, h, hlt, hp, kcmp, hl, h1, hw, ih]
        · have ih := ih2 ls (t[i].1, IntKind.u64.wrap (t[i].2 - l.2)) fls
          rw [if_neg h1]
          simp only [List.map_nil, List.map_append, List.map_cons] at ih
          have hrow2 : GV.g [.l (t[i].1.map ent), .i .u64 (IntKind.u64.wrap (t[i].2 - l.2))] = row (t[i].1, IntKind.u64.wrap (t[i].2 - l.2)) := rfl
          refine tree_lim rfl rfl ?_
          simp [-List.getElem_cons_drop, -lsub3_i, h, hlt, hp, kcmp, hl, h1, hw, kc, hrow2, hok, hbb, ih]
      · have hne := cmpK_ne h2
        generalize cmpK (keyF l.1) (keyF t[i].1) = v at kcmp hne
        simp only [diffR]
        rw [if_neg h2]
        by_cases h1 : t[i].2 = 0
        · have ih := ih1 (l :: ls) fb
          simp only [List.map_cons] at ih
          rw [if_pos h1]
          have h1' : (t[i].2 = 0) = True := eq_true h1
          clear h1
          refine tree_lim rfl rfl ?_
          simp [-List.getElem_cons_drop, -lsub3_i, h, hlt, hp, kcmp, hne, h1', hw, ih]
        · have ih := ih2 (l :: ls) t[i] fb
          simp only [List.map_nil, List.map_append, List.map_cons] at ih
          rw [if_neg h1]
          refine tree_lim rfl rfl ?_
          simp [-List.getElem_cons_drop, -lsub3_i, h, hlt, hp, kcmp, hne, h1, hw, kc, hrow, hok, hbb, ih]
theorem diff_facts : ∀ (t b : List Row), Rise t → Rise b → Pos t → Pos b → (∀ l ∈ b, ∃ r ∈ t, K r = K l ∧ l.2 ≤ r.2) →
    Rise (diffR t b) ∧ (∀ k, val (diffR t b) k = val t k - val b k) ∧ (∀ r ∈ diffR t b, ∃ s ∈ t, s.1 = r.1) ∧ Pos (diffR t b)
  | [], [], _, _, _, _, _ => ⟨List.Pairwise.nil, fun k => rfl, by simp [diffR], by simp [diffR, Pos]⟩
  | [], l :: b, _, _, _, _, h => by obtain ⟨r, hr, _⟩ := h l (by simp); simp at hr
  | r :: t, [], ht, hb, pt, pb, h => by
    have ht' := List.pairwise_cons.1 ht
    obtain ⟨h1, h2, h3, h4⟩ := diff_facts t [] ht'.2 hb (fun x hx => pt x (by simp [hx])) pb (by simp)
    have hr := pt r (by simp)
    simp only [diffR]
    rw [if_neg (by omega)]
    refine ⟨List.Pairwise.cons (fun x hx => ?_) h1, fun k => ?_, fun x hx => ?_, fun x hx => ?_⟩
    · obtain ⟨s, hs, e⟩ := h3 x hx
      show K r < keyF x.1
      rw [← e]; exact ht'.1 s hs
    · show (if K r = k then r.2 else val (diffR t []) k) = (if K r = k then r.2 else val t k) - val [] k
      split
      · simp [val]
      · exact h2 k
    · rcases List.mem_cons.1 hx with rfl | hx
      · exact ⟨x, by simp, rfl⟩
      · obtain ⟨s, hs, e⟩ := h3 x hx; exact ⟨s, by simp [hs], e⟩
    · rcases List.mem_cons.1 hx with rfl | hx
      · exact hr
      · exact h4 x hx
  | r :: t, l :: b, ht, hb, pt, pb, h => by
    have ht' := List.pairwise_cons.1 ht
    have hb' := List.pairwise_cons.1 hb
    have hr := pt r (by simp)
    have hl := pb l (by simp)
    simp only [diffR]
    by_cases he : K l = K r
    · rw [if_pos he]
      have hle : l.2 ≤ r.2 := by
        obtain ⟨s, hs, e, hn⟩ := h l (by simp)
        have : s = r := rise_key ht hs (by simp) (e.trans he)
        rw [← this]; exact hn
      have hw := wrapu64 (n := r.2 - l.2) (by omega) (by omega)
      rw [hw]
      obtain ⟨h1, h2, h3, h4⟩ := diff_facts t b ht'.2 hb'.2 (fun x hx => pt x (by simp [hx])) (fun x hx => pb x (by simp [hx])) (fun x hx => by
        obtain ⟨s, hs, e, hn⟩ := h x (by simp [hx])
        rcases List.mem_cons.1 hs with rfl | hs
        · have := hb'.1 x hx; rw [he, ← e] at this; exact absurd this (List.lt_irrefl _)
        · exact ⟨s, hs, e, hn⟩)
      have h3' : ∀ x ∈ diffR t b, ∃ s ∈ r :: t, s.1 = x.1 := fun x hx => by obtain ⟨s, hs, e⟩ := h3 x hx; exact ⟨s, by simp [hs], e⟩
      have hv : ∀ k, (if K r = k then r.2 - l.2 else val (diffR t b) k) = val (r :: t) k - val (l :: b) k := fun k => by
        show _ = (if K r = k then r.2 else val t k) - (if K l = k then l.2 else val b k)
        rw [he]
        split
        · rfl
        · exact h2 k
      by_cases h0 : r.2 - l.2 = 0
      · rw [if_pos h0]
        refine ⟨h1, fun k => ?_, h3', h4⟩
        rw [← hv k]
        split
        · next e =>
          rw [h0]; subst e
          refine val_above fun x hx => ?_
          obtain ⟨s, hs, e⟩ := h3 x hx
          show K r < keyF x.1
          rw [← e]; exact ht'.1 s hs
        · rfl
      · rw [if_neg h0]
        refine ⟨List.Pairwise.cons (fun x hx => ?_) h1, hv, fun x hx => ?_, fun x hx => ?_⟩
        · obtain ⟨s, hs, e⟩ := h3 x hx
          show keyF r.1 < keyF x.1
          rw [← e]; exact ht'.1 s hs
        · rcases List.mem_cons.1 hx with rfl | hx
          · exact ⟨r, by simp, rfl⟩
          · exact h3' x hx
        · rcases List.mem_cons.1 hx with rfl | hx
          · exact ⟨by simp only; omega, by simp only; omega⟩
          · exact h4 x hx
    · rw [if_neg he, if_neg (by omega)]
      have hin : ∀ x ∈ l :: b, ∃ s ∈ t, K s = K x ∧ x.2 ≤ s.2 := by
        have hlr : K r < K l := by
          obtain ⟨s, hs, e, _⟩ := h l (by simp)
          rcases List.mem_cons.1 hs with rfl | hs
          · exact absurd e.symm he
          · rw [← e]; exact ht'.1 s hs
        intro x hx
        obtain ⟨s, hs, e, hn⟩ := h x hx
        rcases List.mem_cons.1 hs with rfl | hs
        · exfalso
          rcases List.mem_cons.1 hx with rfl | hx
          · exact he e.symm
          · have := List.lt_trans hlr (hb'.1 x hx); rw [e] at this; exact List.lt_irrefl _ this
        · exact ⟨s, hs, e, hn⟩
      obtain ⟨h1, h2, h3, h4⟩ := diff_facts t (l :: b) ht'.2 hb (fun x hx => pt x (by simp [hx])) pb hin
      refine ⟨List.Pairwise.cons (fun x hx => ?_) h1, fun k => ?_, fun x hx => ?_, fun x hx => ?_⟩
      · obtain ⟨s, hs, e⟩ := h3 x hx
        show K r < keyF x.1
        rw [← e]; exact ht'.1 s hs
      · show (if K r = k then r.2 else val (diffR t (l :: b)) k) = (if K r = k then r.2 else val t k) - val (l :: b) k
        split
        · next e =>
          rw [val_none (t := l :: b) fun x hx e2 => by
            obtain ⟨s, hs, e3, _⟩ := hin x hx
            have := ht'.1 s hs
            rw [e3, e2, e] at this; exact List.lt_irrefl _ this]
          omega
        · exact h2 k
      · rcases List.mem_cons.1 hx with rfl | hx
        · exact ⟨x, by simp, rfl⟩
        · obtain ⟨s, hs, e⟩ := h3 x hx; exact ⟨s, by simp [hs], e⟩
      · rcases List.mem_cons.1 hx with rfl | hx
        · exact hr
        · exact h4 x hx
abbrev Sn := Int × List Row
def sn (s : Sn) : GV := .g [.i .u64 s.1, .l (s.2.map row)]
@[simp] theorem sn_cells (s : Sn) : (sn s).cells = [.i .u64 s.1, .l (s.2.map row)] := rfl
@[simp] theorem sn_scalar (s : Sn) : (sn s).scalar = false := rfl
def zS : Sn := (0, [])
theorem check49 (s : Sn) (h : GoodT s.2) : TT.lim 16 [sn s] = some [.i .i64 (checkT s.2)] := by
  have k := check37 s.2 h.rows h.few
  refine fn_lim rfl rfl ?_ rfl
  simp [k]
def diffS (s n : Sn) : Dl × Int :=
  if checkT s.2 ≠ 0 then (zD, checkT s.2) else if checkT n.2 ≠ 0 then (zD, checkT n.2) else if n.1 ≤ s.1 then (zD, 20)
  else if atL n.2 s.2 = false then (zD, 21) else ((s.1, n.1, diffR n.2 s.2), 0)
def applyS (s : Sn) (d : Dl) : Sn × Int :=
  if checkT s.2 ≠ 0 then (zS, checkT s.2) else if chkD d ≠ 0 then (zS, chkD d) else if s.1 ≠ d.1 then (zS, 19)
  else if (tog s.2 d.2.2).2 ≠ 0 then (zS, (tog s.2 d.2.2).2) else ((d.2.1, (tog s.2 d.2.2).1), 0)
theorem diff48 (s n : Sn) (hs : GoodT s.2) (hn : GoodT n.2) : TT.lim 118 [sn s, sn n] = some [dl (diffS s n).1, .i .i64 (diffS s n).2] := by
  have k1 := check49 s hs
  have k2 := check49 n hn
  have e1 : GV.g [.i .u64 s.1, .l (s.2.map row)] = sn s := rfl
  have e2 : GV.g [.i .u64 n.1, .l (n.2.map row)] = sn n := rfl
  have e3 : GV.g [.i .u64 0, .i .u64 0, .l []] = dl zD := rfl
  have e4 : GV.g [.i .u64 s.1, .i .u64 n.1, .l ((diffR n.2 s.2).map row)] = dl (s.1, n.1, diffR n.2 s.2) := rfl
  have k5 : TT.lim 122 [.l (s.2.map row), .l (n.2.map row), .i .i64 n.2.length, .i .i64 0, .i .u64 s.1, .i .u64 n.1, .l []] = _ := loop50 n.2 s.1 n.1 hn.len hn.few n.2.length 0 s.2 [] (by omega) (by simp) hs.few
  rw [List.drop_zero, List.nil_append] at k5
  unfold diffS
  by_cases h1 : checkT s.2 = 0
  rotate_left
  · refine fn_lim rfl rfl ?_ rfl
    simp [e1, k1, h1, e3]
  by_cases h2 : checkT n.2 = 0
  rotate_left
  · refine fn_lim rfl rfl ?_ rfl
    simp [e1, k1, h1, e2, k2, h2, e3]
  by_cases h3 : n.1 ≤ s.1
  · refine fn_lim rfl rfl ?_ rfl
    simp [e1, k1, h1, e2, k2, h2, e3, h3]
  have k4 := atLeast24 n.2 s.2 ((checkT_iff _).1 h2).1 ((checkT_iff _).1 h1).1 hn.few hs.few
  cases h4 : atL n.2 s.2 with
  | false =>
    rw [h4] at k4
    refine fn_lim rfl rfl ?_ rfl
    simp [e1, k1, h1, e2, k2, h2, e3, h3, k4]
  | true =>
    rw [h4] at k4
    refine fn_lim rfl rfl ?_ rfl
    simp [e1, k1, h1, e2, k2, h2, e4, h3, k4, k5]
theorem apply51 (s : Sn) (d : Dl) (hs : GoodT s.2) (hd : GoodT d.2.2) : TT.lim 103 [sn s, dl d] = some [sn (applyS s d).1, .i .i64 (applyS s d).2] := by
  have k1 := check49 s hs
  have k2 := check41 d hd
  have k3 := together42 _ _ hs hd
  have e1 : GV.g [.i .u64 s.1, .l (s.2.map row)] = sn s := rfl
  have e2 : GV.g [.i .u64 d.1, .i .u64 d.2.1, .l (d.2.2.map row)] = dl d := rfl
  have e3 : GV.g [.i .u64 0, .l []] = sn zS := rfl
  have e4 : GV.g [.i .u64 d.2.1, .l ((tog s.2 d.2.2).1.map row)] = sn (d.2.1, (tog s.2 d.2.2).1) := rfl
  unfold applyS
  by_cases h1 : checkT s.2 = 0
  rotate_left
  · refine fn_lim rfl rfl ?_ rfl
    simp [e1, k1, h1, e3]
  by_cases h2 : chkD d = 0
  rotate_left
  · refine fn_lim rfl rfl ?_ rfl
    simp [e1, k1, h1, e2, k2, h2, e3]
  by_cases h3 : s.1 = d.1
  rotate_left
  · refine fn_lim rfl rfl ?_ rfl
    simp [e1, k1, h1, e2, k2, h2, e3, h3]
  have h3' : (s.1 = d.1) = True := eq_true h3
  clear h3
  by_cases h4 : (tog s.2 d.2.2).2 = 0
  rotate_left
  · refine fn_lim rfl rfl ?_ rfl
    simp [e1, k1, h1, e2, k2, h2, e3, h3', k3, h4]
  · refine fn_lim rfl rfl ?_ rfl
    simp [e1, k1, h1, e2, k2, h2, e4, h3', k3, h4]
theorem diffS_ok {s n : Sn} (h : (diffS s n).2 = 0) : Ok s.2 ∧ Ok n.2 ∧ s.1 < n.1 ∧ atL n.2 s.2 = true ∧ (diffS s n).1 = (s.1, n.1, diffR n.2 s.2) := by
  unfold diffS at h ⊢
  split at h
  · next h1 => exact absurd h h1
  next h1 =>
  split at h
  · next h2 => exact absurd h h2
  next h2 =>
  split at h
  · cases h
  next h3 =>
  split at h
  · cases h
  next h4 =>
  rw [if_neg h1, if_neg h2, if_neg h3, if_neg h4]
  exact ⟨(checkT_iff _).1 (by simpa using h1), (checkT_iff _).1 (by simpa using h2), by omega, by simpa using h4, rfl⟩
theorem diffS_eq {s n : Sn} (h1 : Ok s.2) (h2 : Ok n.2) (h3 : s.1 < n.1) (h4 : atL n.2 s.2 = true) : diffS s n = ((s.1, n.1, diffR n.2 s.2), 0) := by
  unfold diffS
  rw [if_neg (by simp [(checkT_iff _).2 h1]), if_neg (by simp [(checkT_iff _).2 h2]), if_neg (by omega), if_neg (by simp [h4])]
theorem applyS_ok {s : Sn} {d : Dl} (h : (applyS s d).2 = 0) : Ok s.2 ∧ chkD d = 0 ∧ s.1 = d.1 ∧ (tog s.2 d.2.2).2 = 0 ∧ (applyS s d).1 = (d.2.1, (tog s.2 d.2.2).1) := by
  unfold applyS at h ⊢
  split at h
  · next h1 => exact absurd h h1
  next h1 =>
  split at h
  · next h2 => exact absurd h h2
  next h2 =>
  split at h
  · cases h
  next h3 =>
  split at h
  · next h4 => exact absurd h h4
  next h4 =>
  rw [if_neg h1, if_neg h2, if_neg h3, if_neg h4]
  exact ⟨(checkT_iff _).1 (by simpa using h1), by simpa using h2, by simpa using h3, by simpa using h4, rfl⟩
theorem applyS_eq {s : Sn} {d : Dl} (h1 : Ok s.2) (h2 : chkD d = 0) (h3 : s.1 = d.1) : applyS s d = if (tog s.2 d.2.2).2 ≠ 0 then (zS, (tog s.2 d.2.2).2) else ((d.2.1, (tog s.2 d.2.2).1), 0) := by
  unfold applyS
  rw [if_neg (by simp [(checkT_iff _).2 h1]), if_neg (by simp [h2]), if_neg (by simp [h3])]
/-- What is at least another: by keys. -/
theorem diff_tb {s n : List Row} (hs : Tb s) (hn : Tb n) (h : atL n s = true) : Tb (diffR n s) ∧ ∀ k, val (diffR n s) k = val n k - val s k := by
  have h' := (atL_iff _ _ hn.rise hs.rise).1 h
  obtain ⟨h1, h2, h3, h4⟩ := diff_facts n s hn.rise hs.rise hn.pos hs.pos h'
  have hl : (diffR n s).length ≤ n.length := rise_len h1 hn.rise fun r hr => by obtain ⟨x, hx, e⟩ := h3 r hr; exact ⟨x, hx, by show keyF x.1 = keyF r.1; rw [e]⟩
  exact ⟨tb_of hn hn (Nat.le_trans hl hn.ok.1) h1 (fun r hr => by obtain ⟨x, hx, e⟩ := h3 r hr; exact ⟨x, .inl hx, e⟩) h4, h2⟩
theorem tog_self {t : List Row} (ht : Tb t) : tog t [] = (t, 0) := by
  have h : mergeR t [] = some t := by cases t <;> rw [mergeR]
  unfold tog
  rw [h]
  simp only
  rw [if_neg (by have := ht.ok.1; omega)]
theorem back1 {s n : Sn} (hs : GoodT s.2) (hn : GoodT n.2) (h : (diffS s n).2 = 0) : chkD (diffS s n).1 = 0 ∧ applyS s (diffS s n).1 = (n, 0) ∧ GoodT (diffS s n).1.2.2 := by
  obtain ⟨h1, h2, h3, h4, h5⟩ := diffS_ok h
  have ts := hs.tb h1
  have tn := hn.tb h2
  obtain ⟨k1, k2⟩ := diff_tb ts tn h4
  rw [h5]
  have hc : chkD (s.1, n.1, diffR n.2 s.2) = 0 := chkD_of h3 k1.ok
  have ht : tog s.2 (diffR n.2 s.2) = tog n.2 [] := tog_val ts k1 tn tb_nil fun k => by rw [k2]; simp [val]; omega
  rw [tog_self tn] at ht
  refine ⟨hc, ?_, k1.good⟩
  rw [applyS_eq h1 hc rfl]
  simp only [ht]
  rfl
theorem apply_tb {s : Sn} {d : Dl} (hs : GoodT s.2) (hd : GoodT d.2.2) (h : (applyS s d).2 = 0) : Tb (applyS s d).1.2 ∧ ∀ k, val (applyS s d).1.2 k = val s.2 k + val d.2.2 k := by
  obtain ⟨h1, h2, h3, h4, h5⟩ := applyS_ok h
  rw [h5]
  exact tog_ok (hs.tb h1) (hd.tb (chkD_ok h2).2) h4
def contOut : Option (Int × Int × Int) → List GV
  | some (_, b, _) => [.i .i64 1, .i .i64 b]
  | none => [.i .i64 0]
theorem end69 (s : List UInt8) (size n least : Int) : TT.lim 51 [.s s, .i .i64 size, .i .i64 n, .i .i64 least, .i .i64 size] = some (contOut (some (size, n, least))) := by
  refine tree_lim rfl rfl ?_
  simp [contOut]
def atI (s : List UInt8) (k : Nat) : Int := ((s.getD k 0).toNat : Int)
theorem atI_b (s : List UInt8) (k : Nat) : 0 ≤ atI s k ∧ atI s k < 256 := by unfold atI; have := (s.getD k 0).toNat_lt; omega
theorem at_some {s : List UInt8} {k : Nat} (h : k < s.length) : s[k]? = some (s.getD k 0) := by simp [List.getD, h]
theorem step69 (s : List UInt8) (size n least : Int) (i : Nat) (hi : (i : Int) < size) (hl : i < s.length) (h0 : 0 ≤ n) (h1 : n < 1000000000000) (hs : size < 1000) :
    ∀ out, (if atI s i < 128 then some (contOut none) else if 192 ≤ atI s i then some (contOut none) else TT.lim 51 [.s s, .i .i64 size, .i .i64 (64 * n + atI s i - 128), .i .i64 least, .i .i64 ((i : Int) + 1)]) = some out →
    TT.lim 51 [.s s, .i .i64 size, .i .i64 n, .i .i64 least, .i .i64 i] = some out := by
  intro out h
  have hb := atI_b s i
  have hx : (s[i]?).bind (fun c => some (GV.i .u8 c.toNat)) = some (.i .u8 (atI s i)) := by rw [at_some hl]; rfl
  generalize atI s i = x at *
  have w1 := wrap64 (n := x) (by omega) (by omega)
  refine tree_lim rfl rfl ?_
  by_cases c1 : x < 128
  · rw [if_pos c1] at h
    rw [← h]
    simp [hi, hx, w1, c1, contOut]
  rw [if_neg c1] at h
  by_cases c2 : 192 ≤ x
  · rw [if_pos c2] at h
    rw [← h]
    simp [hi, hx, w1, c1, c2, contOut]
  rw [if_neg c2] at h
  have w2 := wrap64 (n := 64 * n) (by omega) (by omega)
  have w3 := wrap64 (n := 64 * n + x) (by omega) (by omega)
  have w4 := wrap64 (n := 64 * n + x - 128) (by omega) (by omega)
  have w5 := wrap64 (n := (i : Int) + 1) (by omega) (by omega)
  simp [hi, hx, w1, c1, c2, w2, w3, w4, w5, h]
def finI (v least size : Int) : Int := if v < least then 0 else if 1114111 < v then 0 else if 55296 ≤ v ∧ v < 57344 then 0 else size
abbrev badI (x : Int) : Prop := x < 128 ∨ 192 ≤ x
def firstI (n b0 b1 b2 b3 : Int) : Int :=
  if n = 0 then 0 else if b0 < 128 then 1 else if b0 < 192 then 0
  else if b0 < 224 then (if n < 2 then 0 else if badI b1 then 0 else finI (64 * (b0 - 192) + b1 - 128) 128 2)
  else if b0 < 240 then (if n < 3 then 0 else if badI b1 ∨ badI b2 then 0 else finI (64 * (64 * (b0 - 224) + b1 - 128) + b2 - 128) 2048 3)
  else if b0 < 248 then (if n < 4 then 0 else if badI b1 ∨ badI b2 ∨ badI b3 then 0 else finI (64 * (64 * (64 * (b0 - 240) + b1 - 128) + b2 - 128) + b3 - 128) 65536 4)
  else 0
/-- What the loop comes to: two, three, four bytes. -/
theorem loop2 (s : List UInt8) (n least : Int) (hl : 2 ≤ s.length) (h0 : 0 ≤ n) (h1 : n < 64) :
    TT.lim 51 [.s s, .i .i64 2, .i .i64 n, .i .i64 least, .i .i64 1] = some (contOut (if badI (atI s 1) then none else some (2, 64 * n + atI s 1 - 128, least))) := by
  refine step69 s 2 n least 1 (by decide) (by omega) h0 (by omega) (by decide) _ ?_
  have e := end69 s 2 (64 * n + atI s 1 - 128) least
  by_cases c : badI (atI s 1)
  · rw [if_pos c]
    rcases c with c | c
    · exact if_pos c
    · rw [if_neg (by omega)]; exact if_pos c
  · rw [if_neg c, if_neg (fun h => c (.inl h)), if_neg (fun h => c (.inr h))]; exact e
theorem loop3b (s : List UInt8) (n least : Int) (hl : 3 ≤ s.length) (h0 : 0 ≤ n) (h1 : n < 64) :
    TT.lim 51 [.s s, .i .i64 3, .i .i64 n, .i .i64 least, .i .i64 1] = some (contOut (if badI (atI s 1) ∨ badI (atI s 2) then none else some (3, 64 * (64 * n + atI s 1 - 128) + atI s 2 - 128, least))) := by
  have a1 := atI_b s 1
  refine step69 s 3 n least 1 (by decide) (by omega) h0 (by omega) (by decide) _ ?_
  by_cases c : badI (atI s 1)
  · rw [if_pos (show badI (atI s 1) ∨ badI (atI s 2) from .inl c)]
    rcases c with c | c
    · exact if_pos c
    · rw [if_neg (by omega)]; exact if_pos c
  · rw [if_neg (fun h => c (.inl h)), if_neg (fun h => c (.inr h))]
    have c1 : 128 ≤ atI s 1 := by omega
    refine step69 s 3 _ least 2 (by decide) (by omega) (by show 0 ≤ 64 * n + atI s 1 - 128; omega) (by show 64 * n + atI s 1 - 128 < _; omega) (by decide) _ ?_
    have e := end69 s 3 (64 * (64 * n + atI s 1 - 128) + atI s 2 - 128) least
    by_cases d : badI (atI s 2)
    · rw [if_pos (show badI (atI s 1) ∨ badI (atI s 2) from .inr d)]
      rcases d with d | d
      · exact if_pos d
      · rw [if_neg (by omega)]; exact if_pos d
    · rw [if_neg (show ¬ (badI (atI s 1) ∨ badI (atI s 2)) by simp [c, d]), if_neg (fun h => d (.inl h)), if_neg (fun h => d (.inr h))]; exact e
theorem loop4 (s : List UInt8) (n least : Int) (hl : 4 ≤ s.length) (h0 : 0 ≤ n) (h1 : n < 64) :
    TT.lim 51 [.s s, .i .i64 4, .i .i64 n, .i .i64 least, .i .i64 1] = some (contOut (if badI (atI s 1) ∨ badI (atI s 2) ∨ badI (atI s 3) then none else some (4, 64 * (64 * (64 * n + atI s 1 - 128) + atI s 2 - 128) + atI s 3 - 128, least))) := by
  have a1 := atI_b s 1
  have a2 := atI_b s 2
  refine step69 s 4 n least 1 (by decide) (by omega) h0 (by omega) (by decide) _ ?_
  by_cases c : badI (atI s 1)
  · rw [if_pos (show badI (atI s 1) ∨ badI (atI s 2) ∨ badI (atI s 3) from .inl c)]
    rcases c with c | c
    · exact if_pos c
    · rw [if_neg (by omega)]; exact if_pos c
  · rw [if_neg (fun h => c (.inl h)), if_neg (fun h => c (.inr h))]
    have c1 : 128 ≤ atI s 1 := by omega
    refine step69 s 4 _ least 2 (by decide) (by omega) (by show 0 ≤ 64 * n + atI s 1 - 128; omega) (by show 64 * n + atI s 1 - 128 < _; omega) (by decide) _ ?_
    by_cases d : badI (atI s 2)
    · rw [if_pos (show badI (atI s 1) ∨ badI (atI s 2) ∨ badI (atI s 3) from .inr (.inl d))]
      rcases d with d | d
      · exact if_pos d
      · rw [if_neg (by omega)]; exact if_pos d
    · rw [if_neg (fun h => d (.inl h)), if_neg (fun h => d (.inr h))]
      have d1 : 128 ≤ atI s 2 := by omega
      refine step69 s 4 _ least 3 (by decide) (by omega) (by show 0 ≤ 64 * (64 * n + atI s 1 - 128) + atI s 2 - 128; omega) (by show 64 * (64 * n + atI s 1 - 128) + atI s 2 - 128 < _; omega) (by decide) _ ?_
      have e := end69 s 4 (64 * (64 * (64 * n + atI s 1 - 128) + atI s 2 - 128) + atI s 3 - 128) least
      by_cases f : badI (atI s 3)
      · rw [if_pos (show badI (atI s 1) ∨ badI (atI s 2) ∨ badI (atI s 3) from .inr (.inr f))]
        rcases f with f | f
        · exact if_pos f
        · rw [if_neg (by omega)]; exact if_pos f
      · rw [if_neg (show ¬ (badI (atI s 1) ∨ badI (atI s 2) ∨ badI (atI s 3)) by simp [c, d, f]), if_neg (fun h => f (.inl h)), if_neg (fun h => f (.inr h))]; exact e
def firstF (s : List UInt8) : Int := firstI s.length (atI s 0) (atI s 1) (atI s 2) (atI s 3)
theorem contOut_b {c : Prop} [Decidable c] (x : Int × Int × Int) (h : c) : contOut (if c then none else some x) = [.i .i64 0] := by rw [if_pos h]; rfl
theorem contOut_g {c : Prop} [Decidable c] (a b d : Int) (h : ¬ c) : contOut (if c then none else some (a, b, d)) = [.i .i64 1, .i .i64 b] := by rw [if_neg h]; rfl
set_option maxHeartbeats 4000000 in
theorem first68 (s : List UInt8) (hl : s.length ≤ 140737488351232) : TT.lim 50 [.s s] = some [.i .i64 (firstF s)] := by
  have hb := atI_b s 0
  have k2 := fun hl h0 h1 => loop2 s (atI s 0 - 192) 128 hl h0 h1
  have k3 := fun hl h0 h1 => loop3b s (atI s 0 - 224) 2048 hl h0 h1
  have k4 := fun hl h0 h1 => loop4 s (atI s 0 - 240) 65536 hl h0 h1
  unfold firstF firstI
  by_cases hn : s.length = 0
  · refine fn_lim rfl rfl ?_ rfl
    simp [hn]
  have hn' : ¬ (s.length : Int) = 0 := by omega
  have hne : ¬ s = [] := fun e => hn (by rw [e]; rfl)
  have hx : (s[0]?).bind (fun c => some (GV.i .u8 c.toNat)) = some (.i .u8 (atI s 0)) := by rw [at_some (by omega)]; rfl
  have w1 := wrap64 (n := atI s 0) (by omega) (by omega)
  rw [if_neg hn']
  generalize atI s 0 = x at *
  generalize atI s 1 = b1 at *
  generalize atI s 2 = b2 at *
  generalize atI s 3 = b3 at *
  by_cases c0 : x < 128
  · refine fn_lim rfl rfl ?_ rfl
    simp [hn', hne, hx, w1, c0]
  by_cases c1 : x < 192
  · have d1 : ¬ 192 ≤ x := by omega
    have d2 : ¬ 224 ≤ x := by omega
    have d3 : ¬ 240 ≤ x := by omega
    refine fn_lim rfl rfl ?_ rfl
    simp [hn', hne, hx, w1, c0, c1, d1, d2, d3]
  have d1 : 192 ≤ x := by omega
  have w2 := wrap64 (n := x - 192) (by omega) (by omega)
  by_cases c2 : x < 224
  · rw [if_neg c0, if_neg c1, if_pos c2]
    by_cases n2 : (s.length : Int) < 2
    · refine fn_lim rfl rfl ?_ rfl
      simp [hn', hne, hx, w1, c0, d1, c2, w2, n2]
    rw [if_neg n2]
    have k := k2 (by omega) (by omega) (by omega)
    by_cases e1 : badI b1
    · rw [contOut_b _ e1] at k
      rw [if_pos e1]
      refine fn_lim rfl rfl ?_ rfl
      simp [hn', hne, hx, w1, c0, d1, c2, w2, n2, k]
    rw [contOut_g _ _ _ e1] at k
    rw [if_neg e1]
    generalize 64 * (x - 192) + b1 - 128 = v at *
    unfold finI
    by_cases f1 : v < 128
    · refine fn_lim rfl rfl ?_ rfl
      simp [hn', hne, hx, w1, c0, d1, c2, w2, n2, k, f1]
    by_cases f2 : 1114111 < v
    · refine fn_lim rfl rfl ?_ rfl
      simp [hn', hne, hx, w1, c0, d1, c2, w2, n2, k, f1, f2]
    by_cases f3 : 55296 ≤ v
    · by_cases f4 : v < 57344
      · refine fn_lim rfl rfl ?_ rfl
        simp [hn', hne, hx, w1, c0, d1, c2, w2, n2, k, f1, f2, f3, f4]
      · refine fn_lim rfl rfl ?_ rfl
        simp [hn', hne, hx, w1, c0, d1, c2, w2, n2, k, f1, f2, f3, f4]
    · refine fn_lim rfl rfl ?_ rfl
      simp [hn', hne, hx, w1, c0, d1, c2, w2, n2, k, f1, f2, f3]
  have d2 : 224 ≤ x := by omega
  have w3 := wrap64 (n := x - 224) (by omega) (by omega)
  by_cases c3 : x < 240
  · rw [if_neg c0, if_neg c1, if_neg c2, if_pos c3]
    by_cases n2 : (s.length : Int) < 3
    · refine fn_lim rfl rfl ?_ rfl
      simp [hn', hne, hx, w1, c0, d1, c2, d2, c3, w3, n2]
    rw [if_neg n2]
    have k := k3 (by omega) (by omega) (by omega)
    by_cases e1 : badI b1 ∨ badI b2
    · rw [contOut_b _ e1] at k
      rw [if_pos e1]
      refine fn_lim rfl rfl ?_ rfl
      simp [hn', hne, hx, w1, c0, d1, c2, d2, c3, w3, n2, k]
    rw [contOut_g _ _ _ e1] at k
    rw [if_neg e1]
    generalize 64 * (64 * (x - 224) + b1 - 128) + b2 - 128 = v at *
    unfold finI
    by_cases f1 : v < 2048
    · refine fn_lim rfl rfl ?_ rfl
      simp [hn', hne, hx, w1, c0, d1, c2, d2, c3, w3, n2, k, f1]
    by_cases f2 : 1114111 < v
    · refine fn_lim rfl rfl ?_ rfl
      simp [hn', hne, hx, w1, c0, d1, c2, d2, c3, w3, n2, k, f1, f2]
    by_cases f3 : 55296 ≤ v
    · by_cases f4 : v < 57344
      · refine fn_lim rfl rfl ?_ rfl
        simp [hn', hne, hx, w1, c0, d1, c2, d2, c3, w3, n2, k, f1, f2, f3, f4]
      · refine fn_lim rfl rfl ?_ rfl
        simp [hn', hne, hx, w1, c0, d1, c2, d2, c3, w3, n2, k, f1, f2, f3, f4]
    · refine fn_lim rfl rfl ?_ rfl
      simp [hn', hne, hx, w1, c0, d1, c2, d2, c3, w3, n2, k, f1, f2, f3]
  have d3 : 240 ≤ x := by omega
  have w4 := wrap64 (n := x - 240) (by omega) (by omega)
  by_cases c4 : x < 248
  · rw [if_neg c0, if_neg c1, if_neg c2, if_neg c3, if_pos c4]
    by_cases n2 : (s.length : Int) < 4
    · refine fn_lim rfl rfl ?_ rfl
      simp [hn', hne, hx, w1, c0, d1, c2, d2, c3, d3, c4, w4, n2]
    rw [if_neg n2]
    have k := k4 (by omega) (by omega) (by omega)
    by_cases e1 : badI b1 ∨ badI b2 ∨ badI b3
    · rw [contOut_b _ e1] at k
      rw [if_pos e1]
      refine fn_lim rfl rfl ?_ rfl
      simp [hn', hne, hx, w1, c0, d1, c2, d2, c3, d3, c4, w4, n2, k]
    rw [contOut_g _ _ _ e1] at k
    rw [if_neg e1]
    generalize 64 * (64 * (64 * (x - 240) + b1 - 128) + b2 - 128) + b3 - 128 = v at *
    unfold finI
    by_cases f1 : v < 65536
    · refine fn_lim rfl rfl ?_ rfl
      simp [hn', hne, hx, w1, c0, d1, c2, d2, c3, d3, c4, w4, n2, k, f1]
    by_cases f2 : 1114111 < v
    · refine fn_lim rfl rfl ?_ rfl
      simp [hn', hne, hx, w1, c0, d1, c2, d2, c3, d3, c4, w4, n2, k, f1, f2]
    by_cases f3 : 55296 ≤ v
    · by_cases f4 : v < 57344
      · refine fn_lim rfl rfl ?_ rfl
        simp [hn', hne, hx, w1, c0, d1, c2, d2, c3, d3, c4, w4, n2, k, f1, f2, f3, f4]
      · refine fn_lim rfl rfl ?_ rfl
        simp [hn', hne, hx, w1, c0, d1, c2, d2, c3, d3, c4, w4, n2, k, f1, f2, f3, f4]
    · refine fn_lim rfl rfl ?_ rfl
      simp [hn', hne, hx, w1, c0, d1, c2, d2, c3, d3, c4, w4, n2, k, f1, f2, f3]
  · refine fn_lim rfl rfl ?_ rfl
    simp [hn', hne, hx, w1, c0, c1, d1, c2, d2, c3, d3, c4]
set_option maxHeartbeats 8000000 in
/-- It is the model's own way of decoding. -/
theorem firstI_N (n b0 b1 b2 b3 : Nat) (hn : 0 < n) (h0 : b0 < 256) (h1 : b1 < 256) (h2 : b2 < 256) (h3 : b3 < 256) : firstI n b0 b1 b2 b3 = if (Lib.decodeN n b0 b1 b2 b3).1 = 65533 ∧ (Lib.decodeN n b0 b1 b2 b3).2 = 1 then 0 else ((Lib.decodeN n b0 b1 b2 b3).2 : Nat) := by
  generalize hd : Lib.decodeN n b0 b1 b2 b3 = d
  unfold Lib.decodeN at hd
  unfold firstI finI
  rw [if_neg (by omega)]
  repeat' split at hd
  all_goals subst hd
  all_goals dsimp only
  · rw [if_pos (by omega), if_neg (by omega)]; rfl
  all_goals rw [if_neg (show ¬ (b0 : Int) < 128 by omega)]
  all_goals first | rw [if_neg (by omega)] | rw [if_pos (show True ∧ True from ⟨trivial, trivial⟩)] | skip
  all_goals (repeat' split)
  all_goals first | omega | (simp only [not_true_eq_false, and_self] at *; omega)
theorem firstF_eq (s : List UInt8) (hne : s ≠ []) : firstF s = if (Lib.decodeL s).1 = 65533 ∧ (Lib.decodeL s).2 = 1 then 0 else ((Lib.decodeL s).2 : Nat) := by
  unfold firstF atI
  rw [Lib.decodeL_N]
  exact firstI_N _ _ _ _ _ (List.length_pos_iff.2 hne) (UInt8.toNat_lt _) (UInt8.toNat_lt _) (UInt8.toNat_lt _) (UInt8.toNat_lt _)
theorem decodeL_pos (s : List UInt8) : 1 ≤ (Lib.decodeL s).2 := by
  rw [Lib.decodeL_N]
  rcases Lib.decodeN_shape s.length (s.getD 0 0).toNat (s.getD 1 0).toNat (s.getD 2 0).toNat (s.getD 3 0).toNat with ⟨_, e⟩ | ⟨_, _, _, _, e⟩ | ⟨_, _, _, _, _, _, e⟩ | ⟨_, _, _, _, _, _, _, e⟩ | e
  all_goals rw [e]; dsimp only; omega
theorem loop67 : ∀ (n : Nat) (s : List UInt8), s.length ≤ n → s.length ≤ 140737488351232 → TT.lim 49 [.s s] = some (if Lib.validGoD n s = true then [.i .i64 1] else [.i .i64 0])
  | 0, s, hn, hl => by
    obtain rfl : s = [] := List.eq_nil_of_length_eq_zero (by omega)
    refine tree_lim rfl rfl ?_
    simp [Lib.validGoD]
  | n + 1, s, hn, hl => by
    by_cases hne : s = []
    · subst hne
      refine tree_lim rfl rfl ?_
      simp [Lib.validGoD]
    have hp := List.length_pos_iff.2 hne
    have k := first68 s hl
    have hf := firstF_eq s hne
    have hle := Lib.decodeL_le s hne
    have hd := decodeL_pos s
    have hp' : (0 : Int) < (s.length : Int) := by omega
    unfold Lib.validGoD
    rw [if_neg hne]
    by_cases c : (Lib.decodeL s).1 = 65533 ∧ (Lib.decodeL s).2 = 1
    · rw [if_pos c] at hf
      rw [hf] at k
      rw [if_pos c]
      refine tree_lim rfl rfl ?_
      simp [hp, hp', k]
    · rw [if_neg c] at hf
      rw [hf] at k
      rw [if_neg c]
      have ih := loop67 n (s.drop (Lib.decodeL s).2) (by simp; omega) (by simp; omega)
      generalize (Lib.decodeL s).2 = w at *
      have hw : ¬ w = 0 := by omega
      have ht : List.take s.length s = s := List.take_length
      refine tree_lim rfl rfl ?_
      simp [hp, hp', k, hw, hle, ht, ih]
theorem good66 (s : List UInt8) (h : s.length ≤ 140737488351232) : TT.lim 48 [.s s] = some [.b (Lib.validD s)] := by
  have k := loop67 s.length s (Nat.le_refl _) h
  unfold Lib.validD
  refine fn_lim rfl rfl ?_ rfl
  cases hv : Lib.validGoD s.length s <;> rw [hv] at k <;> simp at k <;> simp [k]
theorem check65 (s : List UInt8) (lo hi : Int) (h : s.length ≤ 140737488351232) : TT.lim 47 [.s s, .i .i64 lo, .i .i64 hi] = some [.i .i64 (utfChk s lo hi)] := by
  have h20 := good66 s h
  refine fn_lim rfl rfl ?_ rfl
  unfold utfChk
  by_cases h1 : (s.length : Int) < lo
  · simp [h1]
  · by_cases h2 : hi < (s.length : Int)
    · simp [h1, h2]
    · cases hv : Lib.validD s <;> rw [hv] at h20 <;> simp [h1, h2, h20, hv]
theorem entcheck64 (x : Ent) (h1 : x.1.length ≤ 140737488351232) (h2 : x.2.length ≤ 140737488351232) : TT.lim 46 [ent x] = some [.i .i64 (entChk x)] := by
  have k1 := check65 x.1 1 64 h1
  have k2 := check65 x.2 0 256 h2
  refine fn_lim rfl rfl ?_ rfl
  unfold entChk
  by_cases h : utfChk x.1 1 64 = 0
  · simp [k1, h, k2]
  · simp [k1, h]
def diffAt : List UInt8 → List UInt8 → Option Bool
  | x :: a, y :: b => if x = y then diffAt a b else some (decide (x < y))
  | _, _ => none
theorem bytesLess_diff : ∀ a b : List UInt8, Op.bytesLess a b = (diffAt a b).getD (decide (a.length < b.length))
  | [], [] => rfl
  | [], _ :: _ => by simp [Op.bytesLess, diffAt]
  | _ :: _, [] => by simp [Op.bytesLess, diffAt]
  | x :: a, y :: b => by
    unfold Op.bytesLess diffAt
    rw [bytesLess_diff a b]
    by_cases h : x = y
    · subst h
      simp [UInt8.lt_irrefl]
    · simp [h]
def out73 (a b : List UInt8) : Option Bool → List GV
  | some r => [.i .i64 0, .b r]
  | none => [.i .i64 1]
theorem loop73 (a b : List UInt8) (ha : a.length ≤ 140737488351232) (hb : b.length ≤ 140737488351232) : ∀ m i : Nat, i + m = a.length → TT.lim 55 [.s a, .s b, .i .i64 i] = some (out73 a b (diffAt (a.drop i) (b.drop i)))
  | 0, i, hi => by
    have h0 : a.drop i = [] := List.drop_eq_nil_of_le (by omega)
    have h : ¬ ((i : Int) < a.length) := by omega
    refine tree_lim rfl rfl ?_
    simp [h, h0, diffAt, out73]
  | m + 1, i, hi => by
    have hlt : i < a.length := by omega
    have h : ((i : Int) < a.length) := by omega
    by_cases hlb : i < b.length
    rotate_left
    · have h0 : b.drop i = [] := List.drop_eq_nil_of_le (by omega)
      have h1 : ¬ ((i : Int) < b.length) := by omega
      have hd : diffAt (a.drop i) [] = none := by cases a.drop i <;> rfl
      refine tree_lim rfl rfl ?_
      simp [h, h0, h1, hd, out73]
    have hb1 : ((i : Int) < b.length) := by omega
    have ih : TT.lim 55 [.s a, .s b, .i .i64 ((i : Int) + 1)] = _ := loop73 a b ha hb m (i + 1) (by omega)
    have hw := wrap64 (n := (i : Int) + 1) (by omega) (by omega)
    rw [List.drop_eq_getElem_cons hlt, List.drop_eq_getElem_cons hlb]
    unfold diffAt
    by_cases e : a[i] = b[i]
    · rw [if_pos e]
      have e' : ((a[i].toNat : Int) = (b[i].toNat : Int)) = True := eq_true (by rw [e])
      refine tree_lim rfl rfl ?_
      simp [h, hlt, hlb, hb1, e', hw, ih]
    · rw [if_neg e]
      have e' : ¬ (a[i].toNat : Int) = (b[i].toNat : Int) := fun h => e (UInt8.toNat_inj.1 (by omega))
      have hd : decide (a[i] < b[i]) = decide (a[i].toNat < b[i].toNat) := by rw [Bool.eq_iff_iff]; simp [UInt8.lt_iff_toNat_lt]
      refine tree_lim rfl rfl ?_
      simp [h, hlt, hlb, hb1, e', hd, out73]
theorem less72 (a b : List UInt8) (ha : a.length ≤ 140737488351232) (hb : b.length ≤ 140737488351232) : TT.lim 54 [.s a, .s b] = some [.b (Op.bytesLess a b)] := by
  have k : TT.lim 55 [.s a, .s b, .i .i64 0] = _ := loop73 a b ha hb a.length 0 (by omega)
  rw [List.drop_zero, List.drop_zero] at k
  rw [bytesLess_diff]
  refine fn_lim rfl rfl ?_ rfl
  cases hd : diffAt a b with
  | none =>
    rw [hd] at k
    have hl : decide ((a.length : Int) < (b.length : Int)) = decide (a.length < b.length) := by rw [Bool.eq_iff_iff]; simp
    simp [k, out73, hl]
  | some r =>
    rw [hd] at k
    simp [k, out73]
def cmpE (x y : Ent) : Int := if Op.bytesLess x.1 y.1 = true then -1 else if x.1 = y.1 ∧ Op.bytesLess x.2 y.2 = true then -1 else if x = y then 0 else 1
structure SmallE (x : Ent) : Prop where
  key : x.1.length ≤ 140737488351232
  val : x.2.length ≤ 140737488351232
theorem cmp71 (x y : Ent) (hx : SmallE x) (hy : SmallE y) : TT.lim 53 [ent x, ent y] = some [.i .i64 (cmpE x y)] := by
  have k1 := less72 x.1 y.1 hx.key hy.key
  have k2 := less72 x.2 y.2 hx.val hy.val
  have ke := eqGs_ent x y
  unfold cmpE
  refine fn_lim rfl rfl ?_ rfl
  cases h1 : Op.bytesLess x.1 y.1 with
  | true => rw [h1] at k1; simp [k1]
  | false =>
    rw [h1] at k1
    by_cases h2 : x.1 = y.1
    · have h2' : (x.1 = y.1) = True := eq_true h2
      clear h2
      cases h3 : Op.bytesLess x.2 y.2 with
      | true => rw [h3] at k2; simp [k1, h2', k2]
      | false =>
        rw [h3] at k2
        by_cases h4 : x = y
        · have h4' : decide (x = y) = true := by simp [h4]
          rw [h4'] at ke
          have h4'' : (x = y) = True := eq_true h4
          clear h4
          simp [k1, h2', k2, ke, h4'']
        · have h4' : decide (x = y) = false := by simp [h4]
          rw [h4'] at ke
          simp [k1, h2', k2, ke, h4]
    · by_cases h4 : x = y
      · exact absurd (by rw [h4]) h2
      · have h4' : decide (x = y) = false := by simp [h4]
        rw [h4'] at ke
        simp [k1, h2, ke, h4]
def behE (p x : List UInt8) : Int := if x = p then 14 else if Op.bytesLess x p = true then 7 else 0
theorem behind70 (p x : Ent) (hp : SmallE p) (hx : SmallE x) : TT.lim 52 [ent p, ent x] = some [.i .i64 (behE p.1 x.1)] := by
  have k := cmp71 p x hp hx
  have e1 : GV.g [.s p.1, .s p.2] = ent p := rfl
  have e2 : GV.g [.s x.1, .s x.2] = ent x := rfl
  unfold behE
  by_cases h1 : x.1 = p.1
  · have h1' : (p.1 = x.1) = True := eq_true h1.symm
    rw [if_pos h1]
    refine fn_lim rfl rfl ?_ rfl
    simp [h1']
  rw [if_neg h1]
  have h1' : ¬ p.1 = x.1 := fun e => h1 e.symm
  have hne : ¬ p = x := fun e => h1' (by rw [e])
  have hc : cmpE p x = if Op.bytesLess x.1 p.1 = true then 1 else -1 := by
    unfold cmpE
    by_cases h2 : p.1 < x.1
    · rw [if_pos ((bl_iff _ _).2 h2), if_neg fun h => List.lt_irrefl _ (List.lt_trans h2 ((bl_iff _ _).1 h))]
    · have h3 : x.1 < p.1 := by
        rcases List.le_iff_lt_or_eq.1 (List.not_lt.1 h2) with h | h
        · exact h
        · exact absurd h h1
      rw [if_neg fun h => h2 ((bl_iff _ _).1 h), if_neg fun h => h1' h.1, if_neg hne, if_pos ((bl_iff _ _).2 h3)]
  rw [hc] at k
  refine fn_lim rfl rfl ?_ rfl
  cases h3 : Op.bytesLess x.1 p.1 with
  | true => rw [h3] at k; simp [h1', e1, e2, k]
  | false => rw [h3] at k; simp [h1', e1, e2, k]
theorem Ents.small {d : List Ent} (h : Ents d) : ∀ x ∈ d, SmallE x := fun x hx => ⟨(h.2 x hx).1, (h.2 x hx).2⟩
theorem loop63_stop (d : List Ent) (e i : Int) (he : e ≠ 0) : TT.lim 45 [.l (d.map ent), .i .i64 e, .i .i64 i] = some [.i .i64 0, .i .i64 e] := by
  refine tree_lim rfl rfl ?_
  by_cases h : i < (d.length : Int)
  · simp [h, he]
  · simp [h]
theorem loop63 (d : List Ent) (hd : Ents d) : ∀ m i : Nat, i + m = d.length → TT.lim 45 [.l (d.map ent), .i .i64 0, .i .i64 i] = some [.i .i64 0, .i .i64 (chkL (prevK d i) (d.drop i))]
  | 0, i, hi => by
    have h0 : d.drop i = [] := List.drop_eq_nil_of_le (by omega)
    refine tree_lim rfl rfl ?_
    have h : ¬ ((i : Int) < d.length) := by omega
    simp [h, h0, chkL]
  | m + 1, i, hi => by
    have hlt : i < d.length := by omega
    have hx := hd.small d[i] (List.getElem_mem hlt)
    have hp := entcheck64 d[i] hx.key hx.val
    have ih : TT.lim 45 [.l (d.map ent), .i .i64 0, .i .i64 ((i : Int) + 1)] = _ := loop63 d hd m (i + 1) (by omega)
    have hst := fun e he => loop63_stop d e ((i : Int) + 1) he
    have hpk : prevK d (i + 1) = some d[i].1 := by unfold prevK; rw [if_neg (by omega)]; simp [hlt]
    rw [hpk] at ih
    have hdr : d.drop i = d[i] :: d.drop (i + 1) := List.drop_eq_getElem_cons hlt
    rw [hdr]
    have h : ((i : Int) < d.length) := by omega
    have hw := wrap64 (n := (i : Int) + 1) (by omega) (by have := hd.1; omega)
    have he : GV.g [GV.s d[i].1, GV.s d[i].2] = ent d[i] := rfl
    by_cases h1 : entChk d[i] = 0
    rotate_left
    · have hs := hst _ h1
      have hc : chkL (prevK d i) (d[i] :: d.drop (i + 1)) = entChk d[i] := by
        cases prevK d i <;> simp [chkL, h1]
      rw [hc]
      refine tree_lim rfl rfl ?_
      simp [h, hlt, he, hp, h1, hw, hs]
    by_cases h0 : i = 0
    · subst h0
      have hc : chkL (prevK d 0) (d[0] :: d.drop 1) = chkL (some d[0].1) (d.drop 1) := by simp [prevK, chkL, h1]
      rw [hc]
      simp only [Int.natCast_zero, Int.zero_add] at hw ih
      have hpos : (0 : Int) < (d.length : Int) := by omega
      generalize chkL (some d[0].1) (d.drop 1) = out at *
      refine tree_lim rfl rfl ?_
      simp [h, hlt, hpos, he, hp, h1, hw, ih]
    · have hi1 : i - 1 < d.length := by omega
      have hpk2 : prevK d i = some d[i - 1].1 := by unfold prevK; rw [if_neg h0]; simp [hi1]
      have hw2 := wrap64 (n := (i : Int) - 1) (by omega) (by have := hd.1; omega)
      have hi0 : (0 : Int) < (i : Int) := by omega
      have hi0n : 0 < i := by omega
      have ht : ((i : Int) - 1).toNat = i - 1 := by omega
      have hnl : (1 : Int) ≤ (i : Int) := by omega
      have hge : (0 : Int) ≤ (i : Int) - 1 := by omega
      have hy := hd.small d[i - 1] (List.getElem_mem hi1)
      have kb := behind70 d[i - 1] d[i] hy hx
      have he2 : GV.g [GV.s d[i - 1].1, GV.s d[i - 1].2] = ent d[i - 1] := rfl
      have hc : chkL (prevK d i) (d[i] :: d.drop (i + 1)) = if behE d[i - 1].1 d[i].1 ≠ 0 then behE d[i - 1].1 d[i].1 else chkL (some d[i].1) (d.drop (i + 1)) := by
        rw [hpk2]
        unfold behE
        conv => lhs; unfold chkL
        rw [if_neg (by simp [h1])]
        by_cases q1 : d[i].1 = d[i - 1].1
        · simp [q1]
        · by_cases q2 : Op.bytesLess d[i].1 d[i - 1].1 = true
          · simp [q1, q2]
          · simp [q1, q2]
      rw [hc]
      have hst2 := hst (behE d[i - 1].1 d[i].1)
      generalize behE d[i - 1].1 d[i].1 = bb at *
      generalize chkL (some d[i].1) (d.drop (i + 1)) = out at *
      by_cases hb : bb = 0
      · subst hb
        refine tree_lim rfl rfl ?_
        simp [h, hlt, he, he2, hp, h1, hi0, hi0n, hw2, ht, hge, hi1, hnl, kb, hw, ih]
      · have hs := hst2 hb
        refine tree_lim rfl rfl ?_
        simp [h, hlt, he, he2, hp, h1, hi0, hi0n, hw2, ht, hge, hi1, hnl, kb, hw, hb, hs]
theorem check62 (d : List Ent) (hd : Ents d) : TT.lim 44 [.l (d.map ent)] = some [.i .i64 (descrChk d)] := by
  have h17 : TT.lim 45 [.l (d.map ent), .i .i64 0, .i .i64 0] = _ := loop63 d hd d.length 0 (by omega)
  have hpk : prevK d 0 = none := rfl
  rw [hpk, List.drop_zero] at h17
  have w1 := wrapu64 (n := (d.length : Int)) (by omega) (by have := hd.1; omega)
  have s1 := loop63_stop d 12 0 (by decide)
  have s2 := loop63_stop d 13 0 (by decide)
  refine fn_lim rfl rfl ?_ rfl
  unfold descrChk
  by_cases h0 : d.length = 0
  · have : d = [] := List.eq_nil_of_length_eq_zero h0
    subst this
    simp only [List.map_nil] at s1
    simp [IntKind.wrap, IntKind.signed, s1]
  · have hne : ¬ d = [] := fun e => h0 (by rw [e]; rfl)
    by_cases h1 : 16 < d.length
    · have h1' : (16 : Int) < (d.length : Int) := by omega
      simp [w1, h0, hne, h1, h1', s2]
    · have h1' : ¬ (16 : Int) < (d.length : Int) := by omega
      simp [w1, h0, hne, h1, h1', h17]
theorem rowchk61 (r : Row) (hd : Ents r.1) : TT.lim 43 [row r] = some [.i .i64 (rowChk r)] := by
  have k := check62 r.1 hd
  refine fn_lim rfl rfl ?_ rfl
  unfold rowChk
  by_cases h : descrChk r.1 = 0
  · by_cases h2 : r.2 = 0
    · simp [k, h, h2]
    · simp [k, h, h2]
  · simp [k, h]
theorem loop57 (d : List Ent) (hd : d.length ≤ 40) : ∀ (m i : Nat) (acc : List Ent), i + m = d.length → acc.length = i → TT.lim 71 [.l (acc.map ent), .l (d.map ent), .i .i64 d.length, .i .i64 i] = some [.i .i64 0, .l ((acc ++ d.drop i).map ent)]
  | 0, i, acc, hi, ha => by
    have h0 : d.drop i = [] := List.drop_eq_nil_of_le (by omega)
    have h : ¬ ((i : Int) < d.length) := by omega
    refine tree_lim rfl rfl ?_
    simp [h, h0]
  | m + 1, i, acc, hi, ha => by
    have hlt : i < d.length := by omega
    have ih : TT.lim 71 [.l ((acc ++ [d[i]]).map ent), .l (d.map ent), .i .i64 d.length, .i .i64 ((i : Int) + 1)] = _ := loop57 d hd m (i + 1) (acc ++ [d[i]]) (by omega) (by simp; omega)
    rw [List.append_assoc, List.singleton_append, ← List.drop_eq_getElem_cons hlt] at ih
    generalize hL : (acc ++ d.drop i).map ent = L at ih ⊢
    simp only [List.map_append, List.map_cons, List.map_nil] at ih
    have h : ((i : Int) < d.length) := by omega
    have hw := wrap64 (n := (i : Int) + 1) (by omega) (by omega)
    have he : GV.g [GV.s d[i].1, GV.s d[i].2] = ent d[i] := rfl
    have hok : (ent d[i]).elemOk 2 = true := rfl
    have hb : 2 * (acc.length + 1) * 32 ≤ 281474976710656 ∧ acc.length + 1 ≤ 281474976710656 := by omega
    refine tree_lim rfl rfl ?_
    simp [h, hlt, he, hok, hb, hw, ih]
theorem to56 (d : List Ent) (hd : d.length ≤ 40) : TT.lim 70 [.l (d.map ent)] = some [.l (d.map ent)] := by
  have k : TT.lim 71 [.l [], .l (d.map ent), .i .i64 d.length, .i .i64 0] = _ := loop57 d hd d.length 0 [] (by omega) rfl
  rw [List.drop_zero, List.nil_append] at k
  refine fn_lim rfl rfl ?_ rfl
  simp [k]
theorem loop55 (l : List Row) (hl : l.length ≤ 300) (hf : Few l) : ∀ (m i : Nat) (acc : List Row), i + m = l.length → acc.length = i → TT.lim 69 [.l (acc.map row), .l (l.map row), .i .i64 l.length, .i .i64 i] = some [.i .i64 0, .l ((acc ++ l.drop i).map row)]
  | 0, i, acc, hi, ha => by
    have h0 : l.drop i = [] := List.drop_eq_nil_of_le (by omega)
    have h : ¬ ((i : Int) < l.length) := by omega
    refine tree_lim rfl rfl ?_
    simp [h, h0]
  | m + 1, i, acc, hi, ha => by
    have hlt : i < l.length := by omega
    have ih : TT.lim 69 [.l ((acc ++ [l[i]]).map row), .l (l.map row), .i .i64 l.length, .i .i64 ((i : Int) + 1)] = _ := loop55 l hl hf m (i + 1) (acc ++ [l[i]]) (by omega) (by simp; omega)
    rw [List.append_assoc, List.singleton_append, ← List.drop_eq_getElem_cons hlt] at ih
    generalize hL : (acc ++ l.drop i).map row = L at ih ⊢
    simp only [List.map_append, List.map_cons, List.map_nil] at ih
    have k := to56 l[i].1 (few40 (hf _ (List.getElem_mem hlt)))
    have h : ((i : Int) < l.length) := by omega
    have hw := wrap64 (n := (i : Int) + 1) (by omega) (by omega)
    have he : GV.g [GV.l (l[i].1.map ent), GV.i .u64 l[i].2] = row l[i] := rfl
    have hok : (row l[i]).elemOk 2 = true := rfl
    have hb : 2 * (acc.length + 1) * 32 ≤ 281474976710656 ∧ acc.length + 1 ≤ 281474976710656 := by omega
    refine tree_lim rfl rfl ?_
    simp [h, hlt, k, he, hok, hb, hw, ih]
theorem to54 (l : List Row) (hl : GoodT l) : TT.lim 68 [.l (l.map row)] = some [.l (l.map row)] := by
  have k : TT.lim 69 [.l [], .l (l.map row), .i .i64 l.length, .i .i64 0] = _ := loop55 l hl.len hl.few l.length 0 [] (by omega) rfl
  rw [List.drop_zero, List.nil_append] at k
  refine fn_lim rfl rfl ?_ rfl
  simp [k]
theorem to53 (s : Sn) (h : GoodT s.2) : TT.lim 67 [sn s] = some [sn s] := by
  have k := to54 s.2 h
  have e : GV.g [.i .u64 s.1, .l (s.2.map row)] = sn s := rfl
  refine fn_lim rfl rfl ?_ rfl
  simp [k, e]
theorem tmod128 (n : Nat) : (n : Int).tmod 128 = ((n % 128 : Nat) : Int) := by rw [Int.tmod_eq_emod_of_nonneg (by omega)]; omega
theorem tdiv128 (n : Nat) : (n : Int).tdiv 128 = ((n / 128 : Nat) : Int) := by rw [Int.tdiv_eq_ediv_of_nonneg (by omega)]; omega
theorem bytesG_one (n : Nat) (h : n < 256) : bytesG [.i .u8 (n : Int)] = some [UInt8.ofNat n] := by
  have := bytesG_map [n] (by simpa using h)
  simpa [byteG] using this
theorem add_one (s : List UInt8) (c : UInt8) (h : s.length ≤ 1000000) : bin2 .add (some (.s s)) (some (.s [c])) = some (.s (s ++ [c])) := by
  rw [bin2_sadd, if_pos (by simp only [List.length_singleton]; omega)]
theorem step76 (n a b q : Int) (s c r : List UInt8) (h' : 127 < n) (e1 : n.tmod 128 = a) (e2 : n.tdiv 128 = b) (w1 : IntKind.u64.wrap (a + 128) = a + 128) (w2 : IntKind.u8.wrap (a + 128) = a + 128) (w3 : IntKind.u64.wrap b = b)
    (e3 : bytesG [.i .u8 (a + 128)] = some c) (hb : bin2 .add (some (.s s)) (some (.s c)) = some (.s (s ++ c))) (k : TT.lim 58 [.i .u64 b, .s (s ++ c)] = some [.i .i64 0, .i .u64 q, .s (s ++ (c ++ r))]) :
    TT.lim 58 [.i .u64 n, .s s] = some [.i .i64 0, .i .u64 q, .s (s ++ (c ++ r))] := by
  refine tree_lim rfl rfl ?_
  simp [-bin2_sadd, h', e1, e2, w1, w2, w3, e3, hb, k]
theorem put75_aux (n q : Int) (r c : List UInt8) (k : TT.lim 58 [.i .u64 n, .s []] = some [.i .i64 0, .i .u64 q, .s r]) (w : IntKind.u8.wrap q = q) (e : bytesG [.i .u8 q] = some c) (hr : bin2 .add (some (.s r)) (some (.s c)) = some (.s (r ++ c))) :
    TT.lim 57 [.i .u64 n] = some [.s (r ++ c)] := by
  refine fn_lim rfl rfl ?_ rfl
  simp [-bin2_sadd, k, w, e, hr]
theorem loop76 : ∀ n : Nat, n < 18446744073709551616 → ∃ q r, q < 128 ∧ r ++ [UInt8.ofNat q] = vput n ∧ ∀ s : List UInt8, s.length + (vput n).length ≤ 1000 → TT.lim 58 [.i .u64 n, .s s] = some [.i .i64 0, .i .u64 (q : Nat), .s (s ++ r)] := by
  intro n
  induction n using Nat.strongRecOn with
  | _ n ih =>
    intro hn
    by_cases h : n < 128
    · refine ⟨n, [], h, by rw [vput_lt h, List.nil_append], fun s hs => ?_⟩
      have h' : ¬ (127 : Int) < (n : Int) := by omega
      refine tree_lim rfl rfl ?_
      simp [h']
    · obtain ⟨q, r, h1, h2, h3⟩ := ih (n / 128) (by omega) (by omega)
      refine ⟨q, [UInt8.ofNat (n % 128 + 128)] ++ r, h1, by rw [vput_ge h, ← h2, List.append_assoc, List.singleton_append], fun s hs => ?_⟩
      rw [vput_ge h, List.length_cons] at hs
      have k := h3 (s ++ [UInt8.ofNat (n % 128 + 128)]) (by simp; omega)
      rw [List.append_assoc] at k
      have e3 := bytesG_one (n % 128 + 128) (by omega)
      rw [show ((n % 128 + 128 : Nat) : Int) = ((n % 128 : Nat) : Int) + 128 by omega] at e3
      exact step76 n _ _ q s _ r (by omega) (tmod128 n) (tdiv128 n) (wrapu64 (by omega) (by omega)) (wrapu8 (by omega) (by omega)) (wrapu64 (by omega) (by omega)) e3 (add_one s _ (by omega)) k
theorem put75 (n : Nat) (hn : n < 18446744073709551616) : TT.lim 57 [.i .u64 n] = some [.s (vput n)] := by
  obtain ⟨q, r, h1, h2, h3⟩ := loop76 n hn
  have hl := vput_len hn
  have k := h3 [] (by simp; omega)
  rw [List.nil_append] at k
  rw [← h2]
  exact put75_aux n q r _ k (wrapu8 (by omega) (by omega)) (bytesG_one q (by omega)) (add_one r _ (by rw [← h2] at hl; simp at hl; omega))
theorem entput78 (x : Ent) (h1 : x.1.length ≤ 140737488351232) (h2 : x.2.length ≤ 140737488351232) : TT.lim 60 [ent x] = some [.s (entPut x)] := by
  have k1 := put75 x.1.length (by omega)
  have k2 := put75 x.2.length (by omega)
  have l1 := vput_len (n := x.1.length) (by omega)
  have l2 := vput_len (n := x.2.length) (by omega)
  have w1 := wrapu64 (n := (x.1.length : Int)) (by omega) (by omega)
  have w2 := wrapu64 (n := (x.2.length : Int)) (by omega) (by omega)
  have c1 : ((vput x.1.length).length : Int) + (x.1.length : Int) ≤ 9223372036854775807 := by omega
  have c2 : ((vput x.1.length).length : Int) + ((x.1.length : Int) + ((vput x.2.length).length : Int)) ≤ 9223372036854775807 := by omega
  have c3 : ((vput x.1.length).length : Int) + ((x.1.length : Int) + (((vput x.2.length).length : Int) + (x.2.length : Int))) ≤ 9223372036854775807 := by omega
  refine fn_lim rfl rfl ?_ rfl
  simp [w1, w2, k1, k2, c1, c2, c3, entPut, Int.add_assoc]
theorem loop77 (d : List Ent) (hf : d.all fewE = true) (hl : d.length ≤ 40) : ∀ (m i : Nat) (acc : List UInt8), i + m = d.length → acc.length ≤ 10 + 620 * i →
    TT.lim 59 [.s acc, .l (d.map ent), .i .i64 d.length, .i .i64 i] = some [.i .i64 0, .s (acc ++ (d.drop i).flatMap entPut)]
  | 0, i, acc, hi, ha => by
    have h0 : d.drop i = [] := List.drop_eq_nil_of_le (by omega)
    refine tree_lim rfl rfl ?_
    have h : ¬ ((i : Int) < d.length) := by omega
    simp [h, h0]
  | m + 1, i, acc, hi, ha => by
    have hlt : i < d.length := by omega
    have hx := List.all_eq_true.1 hf d[i] (List.getElem_mem hlt)
    have hx1 := hx
    unfold fewE at hx1
    simp only [decide_eq_true_iff] at hx1
    have hp := entput78 d[i] (by omega) (by omega)
    have hpl := entPut_len hx
    have ih : TT.lim 59 [.s (acc ++ entPut d[i]), .l (d.map ent), .i .i64 d.length, .i .i64 ((i : Int) + 1)] = _ := loop77 d hf hl m (i + 1) (acc ++ entPut d[i]) (by omega) (by simp; omega)
    have hd : (d.drop i).flatMap entPut = entPut d[i] ++ (d.drop (i + 1)).flatMap entPut := by rw [List.drop_eq_getElem_cons hlt, List.flatMap_cons]
    rw [hd, ← List.append_assoc]
    have h : ((i : Int) < d.length) := by omega
    have hw := wrap64 (n := (i : Int) + 1) (by omega) (by omega)
    have hb : (acc.length : Int) + ((entPut d[i]).length : Int) ≤ 9223372036854775807 := by omega
    have he : GV.g [GV.s d[i].1, GV.s d[i].2] = ent d[i] := rfl
    refine tree_lim rfl rfl ?_
    simp [h, hlt, he, hp, hb, hw, ih]
theorem key74 (d : List Ent) (hf : few12 d = true) : TT.lim 56 [.l (d.map ent)] = some [.s (keyF d)] := by
  unfold few12 at hf
  rw [Bool.and_eq_true, decide_eq_true_iff] at hf
  have k := put75 d.length (by omega)
  have l1 := vput_len (n := d.length) (by omega)
  have w1 := wrapu64 (n := (d.length : Int)) (by omega) (by omega)
  have h11 : TT.lim 59 [.s (vput d.length), .l (d.map ent), .i .i64 d.length, .i .i64 0] = _ := loop77 d hf.1 hf.2 d.length 0 (vput d.length) (by omega) (by omega)
  rw [List.drop_zero] at h11
  refine fn_lim rfl rfl ?_ rfl
  unfold keyF
  generalize d.flatMap entPut = F at *
  simp [w1, k, h11]
theorem key_len {d : List Ent} (hf : few12 d = true) : (keyF d).length ≤ 30000 := by
  unfold few12 at hf
  rw [Bool.and_eq_true, decide_eq_true_iff] at hf
  have l1 := vput_len (n := d.length) (by omega)
  have := flat_len620 d hf.1
  unfold keyF
  simp only [List.length_append]; omega
theorem less79 (a b : List UInt8) (ha : a.length ≤ 140737488351232) (hb : b.length ≤ 140737488351232) : TT.lim 61 [.s a, .s b] = some [.b (Op.bytesLess a b)] := by
  have k := cmp71 (a, []) (b, []) ⟨ha, by simp⟩ ⟨hb, by simp⟩
  have e1 : GV.g [.s a, .s []] = ent (a, []) := rfl
  have e2 : GV.g [.s b, .s []] = ent (b, []) := rfl
  have hc : decide (cmpE (a, []) (b, []) < 0) = Op.bytesLess a b := by
    unfold cmpE
    cases h : Op.bytesLess a b with
    | true => simp
    | false =>
      simp only [Bool.false_eq_true, if_false]
      rw [if_neg (by simp [Op.bytesLess])]
      split <;> rfl
  refine fn_lim rfl rfl ?_ rfl
  simp [e1, e2, k, hc]
theorem loop60 (t : List Row) (ht : Rows t) (hf : Few t) (h256 : t.length ≤ 256) : ∀ m i : Nat, i + m = t.length →
    TT.lim 42 [.l (t.map row), .i .i64 t.length, .i .i64 i] = some (tagged (chkR (if h : 0 < i then (t[i - 1]?).map K else none) (t.drop i)))
  | 0, i, hi => by
    have h0 : t.drop i = [] := List.drop_eq_nil_of_le (by omega)
    have h : ¬ ((i : Int) < t.length) := by omega
    refine tree_lim rfl rfl ?_
    simp [h, h0, chkR, tagged]
  | m + 1, i, hi => by
    have hlt : i < t.length := by omega
    have hr := ht.2 t[i] (List.getElem_mem hlt)
    have fr := hf t[i] (List.getElem_mem hlt)
    have k15 := rowchk61 t[i] hr.1
    have k6 := key74 t[i].1 fr
    have hrow : GV.g [.l (t[i].1.map ent), .i .u64 t[i].2] = row t[i] := rfl
    have ih : TT.lim 42 [.l (t.map row), .i .i64 t.length, .i .i64 ((i : Int) + 1)] = _ := loop60 t ht hf h256 m (i + 1) (by omega)
    have hpk : (if h : 0 < i + 1 then (t[i + 1 - 1]?).map K else none) = some (K t[i]) := by simp [hlt]
    rw [hpk] at ih
    rw [List.drop_eq_getElem_cons hlt]
    have h : ((i : Int) < t.length) := by omega
    have hw := wrap64 (n := (i : Int) + 1) (by omega) (by omega)
    by_cases h1 : rowChk t[i] = 0
    rotate_left
    · have hc : ∀ p, chkR p (t[i] :: t.drop (i + 1)) = rowChk t[i] := fun p => by unfold chkR; rw [if_pos h1]
      rw [hc]
      have ht1 : tagged (rowChk t[i]) = [.i .i64 0, .i .i64 (rowChk t[i])] := by unfold tagged; rw [if_neg h1]
      rw [ht1]
      refine tree_lim rfl rfl ?_
      simp [-List.getElem_cons_drop, h, hlt, hrow, k15, h1]
    by_cases h0 : i = 0
    · subst h0
      have hc : chkR (if h : 0 < 0 then (t[0 - 1]?).map K else none) (t[0] :: t.drop (0 + 1)) = chkR (some (K t[0])) (t.drop (0 + 1)) := by
        conv => lhs; unfold chkR
        simp [h1]
      rw [hc]
      generalize tagged (chkR (some (K t[0])) (t.drop (0 + 1))) = out at *
      simp only [Int.natCast_zero, Int.zero_add] at hw ih
      have hn : (0 : Int) < (t.length : Int) := by omega
      refine tree_lim rfl rfl ?_
      simp [-List.getElem_cons_drop, h, hlt, hn, hrow, k15, h1, k6, hw, ih]
    · have hi0 : 0 < i := by omega
      have hi1 : i - 1 < t.length := by omega
      have hi0' : (0 : Int) < (i : Int) := by omega
      have hw2 := wrap64 (n := (i : Int) - 1) (by omega) (by omega)
      have ht2 : ((i : Int) - 1).toNat = i - 1 := by omega
      have hnl : (1 : Int) ≤ (i : Int) := by omega
      have hge : (0 : Int) ≤ (i : Int) - 1 := by omega
      have fp := hf t[i - 1] (List.getElem_mem hi1)
      have k7 := key74 t[i - 1].1 fp
      have kl := less79 (keyF t[i - 1].1) (keyF t[i].1) (by have := key_len fp; omega) (by have := key_len fr; omega)
      have hp : (if h : 0 < i then (t[i - 1]?).map K else none) = some (K t[i - 1]) := by simp [hi0, hi1]
      rw [hp]
      have hc : chkR (some (K t[i - 1])) (t[i] :: t.drop (i + 1)) = if K t[i] = K t[i - 1] then 14 else if Op.bytesLess (K t[i]) (K t[i - 1]) = true then 7 else chkR (some (K t[i])) (t.drop (i + 1)) := by
        conv => lhs; unfold chkR
        rw [if_neg (by simp [h1])]
      rw [hc]
      generalize chkR (some (K t[i])) (t.drop (i + 1)) = out at *
      by_cases h2 : keyF t[i].1 = keyF t[i - 1].1
      · rw [if_pos h2]
        have h2' : (keyF t[i - 1].1 = keyF t[i].1) = True := eq_true h2.symm
        refine tree_lim rfl rfl ?_
        simp [-List.getElem_cons_drop, h, hlt, hrow, k15, h1, k6, hi0', hi0, hw2, ht2, hnl, hge, hi1, k7, h2', tagged]
      · rw [if_neg h2]
        have h2' : ¬ keyF t[i - 1].1 = keyF t[i].1 := fun e => h2 e.symm
        by_cases h3 : keyF t[i].1 < keyF t[i - 1].1
        · rw [if_pos ((bl_iff _ _).2 h3)]
          rw [(bl_not _ _).2 fun h => List.lt_irrefl _ (List.lt_trans h h3)] at kl
          refine tree_lim rfl rfl ?_
          simp [-List.getElem_cons_drop, h, hlt, hrow, k15, h1, k6, hi0', hi0, hw2, ht2, hnl, hge, hi1, k7, h2', kl, tagged]
        · rw [if_neg fun h => h3 ((bl_iff _ _).1 h)]
          have h4 : keyF t[i - 1].1 < keyF t[i].1 := by
            rcases List.le_iff_lt_or_eq.1 (List.not_lt.1 h3) with h | h
            · exact h
            · exact absurd h h2'
          rw [(bl_iff _ _).2 h4] at kl
          refine tree_lim rfl rfl ?_
          simp [-List.getElem_cons_drop, h, hlt, hrow, k15, h1, k6, hi0', hi0, hw2, ht2, hnl, hge, hi1, k7, h2', kl, hw, ih]
theorem check59 (t : List Row) (ht : Rows t) (hf : Few t) : TT.lim 41 [.l (t.map row)] = some [.i .i64 (checkT t)] := by
  unfold checkT
  by_cases h1 : 256 < t.length
  · have h1' : (256 : Int) < (t.length : Int) := by omega
    refine fn_lim rfl rfl ?_ rfl
    simp [h1, h1']
  · have h1' : ¬ (256 : Int) < (t.length : Int) := by omega
    have h38 : TT.lim 42 [.l (t.map row), .i .i64 t.length, .i .i64 0] = _ := loop60 t ht hf (by omega) t.length 0 (by omega)
    rw [List.drop_zero] at h38
    have hp : (if h : 0 < 0 then (t[0 - 1]?).map K else none) = none := rfl
    rw [hp] at h38
    refine fn_lim rfl rfl ?_ rfl
    by_cases h2 : chkR none t = 0
    · simp only [tagged, h2, if_true] at h38
      simp [h1, h1', h38, h2]
    · simp only [tagged, h2, if_false] at h38
      simp [h1, h1', h38, h2]
def getT (t : List Row) (k : List UInt8) : Option Int := (t.find? fun r => decide (K r = k)).map (·.2)
theorem val_get : ∀ (t : List Row) (k : List UInt8), val t k = (getT t k).getD 0
  | [], _ => rfl
  | r :: t, k => by
    unfold val getT
    rw [val_get t k]
    by_cases h : K r = k
    · simp [h]
    · simp [h, getT]
def outG : Option Int → List GV
  | some n => [.i .i64 0, .i .u64 n]
  | none => [.i .i64 1]
theorem loop83 (t : List Row) (d : List Ent) (ht : t.length ≤ 1000) (hf : Few t) (hd : few12 d = true) : ∀ m i : Nat, i + m = t.length → TT.lim 65 [.l (d.map ent), .l (t.map row), .i .i64 t.length, .i .i64 i] = some (outG (getT (t.drop i) (keyF d)))
  | 0, i, hi => by
    have h0 : t.drop i = [] := List.drop_eq_nil_of_le (by omega)
    have h : ¬ ((i : Int) < t.length) := by omega
    refine tree_lim rfl rfl ?_
    simp [h, h0, getT, outG]
  | m + 1, i, hi => by
    have hlt : i < t.length := by omega
    have ih : TT.lim 65 [.l (d.map ent), .l (t.map row), .i .i64 t.length, .i .i64 ((i : Int) + 1)] = _ := loop83 t d ht hf hd m (i + 1) (by omega)
    have k1 := key74 t[i].1 (hf _ (List.getElem_mem hlt))
    have k2 := key74 d hd
    have h : ((i : Int) < t.length) := by omega
    have hw := wrap64 (n := (i : Int) + 1) (by omega) (by omega)
    have hc : getT (t.drop i) (keyF d) = if keyF t[i].1 = keyF d then some t[i].2 else getT (t.drop (i + 1)) (keyF d) := by
      rw [List.drop_eq_getElem_cons hlt]
      unfold getT
      rw [List.find?_cons]
      by_cases e : keyF t[i].1 = keyF d
      · simp [e]
      · simp [e]
    rw [hc]
    generalize getT (t.drop (i + 1)) (keyF d) = out at *
    refine tree_lim rfl rfl ?_
    by_cases e : keyF t[i].1 = keyF d
    · rw [if_pos e]
      have e' : (keyF t[i].1 = keyF d) = True := eq_true e
      clear e
      simp [h, hlt, k1, k2, e', outG]
    · rw [if_neg e]
      simp [h, hlt, k1, k2, e, hw, ih]
theorem get82 (t : List Row) (d : List Ent) (ht : t.length ≤ 1000) (hf : Few t) (hd : few12 d = true) : TT.lim 64 [.l (t.map row), .l (d.map ent)] = some [.i .u64 (val t (keyF d))] := by
  have k : TT.lim 65 [.l (d.map ent), .l (t.map row), .i .i64 t.length, .i .i64 0] = _ := loop83 t d ht hf hd t.length 0 (by omega)
  rw [List.drop_zero] at k
  rw [val_get]
  refine fn_lim rfl rfl ?_ rfl
  cases hg : getT t (keyF d) <;> rw [hg] at k <;> simp only [outG] at k <;> simp [k]
def atLF (t b : List Row) : Bool := b.all fun r => decide (r.2 ≤ val t (K r))
theorem loop81 (t b : List Row) (ht : t.length ≤ 1000) (hf : Few t) (hb : b.length ≤ 1000) (fb : Few b) : ∀ m i : Nat, i + m = b.length → TT.lim 63 [.l (t.map row), .l (b.map row), .i .i64 b.length, .i .i64 i] = some (if atLF t (b.drop i) = true then [.i .i64 1] else [.i .i64 0])
  | 0, i, hi => by
    have h0 : b.drop i = [] := List.drop_eq_nil_of_le (by omega)
    have h : ¬ ((i : Int) < b.length) := by omega
    refine tree_lim rfl rfl ?_
    simp [h, h0, atLF]
  | m + 1, i, hi => by
    have hlt : i < b.length := by omega
    have ih : TT.lim 63 [.l (t.map row), .l (b.map row), .i .i64 b.length, .i .i64 ((i : Int) + 1)] = _ := loop81 t b ht hf hb fb m (i + 1) (by omega)
    have k1 := get82 t b[i].1 ht hf (fb _ (List.getElem_mem hlt))
    have h : ((i : Int) < b.length) := by omega
    have hw := wrap64 (n := (i : Int) + 1) (by omega) (by omega)
    have hc : atLF t (b.drop i) = (decide (b[i].2 ≤ val t (keyF b[i].1)) && atLF t (b.drop (i + 1))) := by
      rw [List.drop_eq_getElem_cons hlt]; rfl
    rw [hc]
    generalize atLF t (b.drop (i + 1)) = out at *
    refine tree_lim rfl rfl ?_
    by_cases e : val t (keyF b[i].1) < b[i].2
    · have e' : ¬ b[i].2 ≤ val t (keyF b[i].1) := by omega
      simp [h, hlt, k1, e, e']
    · have e' : b[i].2 ≤ val t (keyF b[i].1) := by omega
      simp [h, hlt, k1, e, e', hw, ih]
theorem atLeast80 (t b : List Row) (ht : t.length ≤ 1000) (hf : Few t) (hb : b.length ≤ 1000) (fb : Few b) : TT.lim 62 [.l (t.map row), .l (b.map row)] = some [.b (atLF t b)] := by
  have k : TT.lim 63 [.l (t.map row), .l (b.map row), .i .i64 b.length, .i .i64 0] = _ := loop81 t b ht hf hb fb b.length 0 (by omega)
  rw [List.drop_zero] at k
  refine fn_lim rfl rfl ?_ rfl
  cases hg : atLF t b <;> rw [hg] at k <;> simp at k <;> simp [k]
theorem atLF_eq {t b : List Row} (ht : Tb t) (hb : Tb b) : atLF t b = atL t b := by
  rw [Bool.eq_iff_iff, atL_iff _ _ ht.rise hb.rise]
  unfold atLF
  rw [List.all_eq_true]
  constructor
  · intro h r hr
    have h1 := h r hr
    simp only [decide_eq_true_iff] at h1
    have h2 := (hb.pos r hr).1
    obtain ⟨s, hs, e1, e2⟩ := val_pos ht.pos (k := K r) (by omega)
    exact ⟨s, hs, e1, by omega⟩
  · intro h r hr
    obtain ⟨s, hs, e1, e2⟩ := h r hr
    simp only [decide_eq_true_iff]
    rw [← e1, val_mem ht.rise s hs]; exact e2
theorem loop99 (a b : List Row) (i : Nat) (ha : i < a.length) (hb : i < b.length) (hl : a[i].1.length = b[i].1.length) (h40 : a[i].1.length ≤ 40) (x3 x4 x5 x7 x8 x9 : GV) : ∀ m j : Nat, j + m = a[i].1.length →
    TT.lim 75 [.l (a.map row), .l (b.map row), .i .i64 i, x3, x4, x5, .i .i64 a[i].1.length, x7, x8, x9, .i .i64 j] = some (if a[i].1.drop j = b[i].1.drop j then [.i .i64 1] else [.i .i64 0])
  | 0, j, hj => by
    have h0 : a[i].1.drop j = [] := List.drop_eq_nil_of_le (by omega)
    have h1 : b[i].1.drop j = [] := List.drop_eq_nil_of_le (by omega)
    have h : ¬ ((j : Int) < a[i].1.length) := by omega
    refine tree_lim rfl rfl ?_
    simp [h, h0, h1]
  | m + 1, j, hj => by
    have hla : j < a[i].1.length := by omega
    have hlb : j < b[i].1.length := by omega
    have ih : TT.lim 75 [.l (a.map row), .l (b.map row), .i .i64 i, x3, x4, x5, .i .i64 a[i].1.length, x7, x8, x9, .i .i64 ((j : Int) + 1)] = _ := loop99 a b i ha hb hl h40 x3 x4 x5 x7 x8 x9 m (j + 1) (by omega)
    have h : ((j : Int) < a[i].1.length) := by omega
    have hw := wrap64 (n := (j : Int) + 1) (by omega) (by omega)
    have ke := eqGs_ent a[i].1[j] b[i].1[j]
    have hc : (a[i].1.drop j = b[i].1.drop j) = (a[i].1[j] = b[i].1[j] ∧ a[i].1.drop (j + 1) = b[i].1.drop (j + 1)) := by
      rw [List.drop_eq_getElem_cons hla, List.drop_eq_getElem_cons hlb, List.cons.injEq]
    simp only [hc]
    by_cases e : a[i].1[j] = b[i].1[j]
    · have e' : (a[i].1[j] = b[i].1[j]) = True := eq_true e
      rw [decide_eq_true e] at ke
      clear e hc
      simp only [e', true_and]
      refine tree_lim rfl rfl ?_
      simp [h, ha, hb, hla, hlb, ke, hw, ih]
    · rw [decide_eq_false e] at ke
      rw [if_neg fun h => e h.1]
      clear hc
      refine tree_lim rfl rfl ?_
      simp [h, ha, hb, hla, hlb, ke]
theorem loop98 (a b : List Row) (hl : a.length = b.length) (hal : a.length ≤ 1000) (fa : Few a) : ∀ m i : Nat, i + m = a.length →
    TT.lim 74 [.l (a.map row), .l (b.map row), .i .i64 a.length, .i .i64 i] = some (if a.drop i = b.drop i then [.i .i64 1] else [.i .i64 0])
  | 0, i, hi => by
    have h0 : a.drop i = [] := List.drop_eq_nil_of_le (by omega)
    have h1 : b.drop i = [] := List.drop_eq_nil_of_le (by omega)
    have h : ¬ ((i : Int) < a.length) := by omega
    refine tree_lim rfl rfl ?_
    simp [h, h0, h1]
  | m + 1, i, hi => by
    have hla : i < a.length := by omega
    have hlb : i < b.length := by omega
    have ih : TT.lim 74 [.l (a.map row), .l (b.map row), .i .i64 a.length, .i .i64 ((i : Int) + 1)] = _ := loop98 a b hl hal fa m (i + 1) (by omega)
    have h : ((i : Int) < a.length) := by omega
    have hw := wrap64 (n := (i : Int) + 1) (by omega) (by omega)
    have h40 := few40 (fa _ (List.getElem_mem hla))
    have hc : (a.drop i = b.drop i) = (a[i] = b[i] ∧ a.drop (i + 1) = b.drop (i + 1)) := by
      rw [List.drop_eq_getElem_cons hla, List.drop_eq_getElem_cons hlb, List.cons.injEq]
    simp only [hc]
    have hpe : (a[i] = b[i]) = (a[i].1 = b[i].1 ∧ a[i].2 = b[i].2) := propext Prod.ext_iff
    clear hc
    by_cases e2 : a[i].2 = b[i].2
    rotate_left
    · rw [if_neg fun h => e2 (by rw [h.1])]
      clear hpe
      refine tree_lim rfl rfl ?_
      simp [h, hla, hlb, e2]
    by_cases e3 : a[i].1.length = b[i].1.length
    rotate_left
    · rw [if_neg fun h => e3 (by rw [h.1])]
      have e2' : (a[i].2 = b[i].2) = True := eq_true e2
      clear hpe e2
      have e3' : ¬ (a[i].1.length : Int) = (b[i].1.length : Int) := by omega
      refine tree_lim rfl rfl ?_
      simp [h, hla, hlb, e2', e3, e3']
    have k := loop99 a b i hla hlb e3 h40 (.i .i64 a.length) (row a[i]) (.l (a[i].1.map ent)) (row b[i]) (.l (b[i].1.map ent)) (.i .i64 b[i].1.length) a[i].1.length 0 (by omega)
    rw [List.drop_zero, List.drop_zero] at k
    simp only [Int.natCast_zero] at k
    have e2' : (a[i].2 = b[i].2) = True := eq_true e2
    have e3' : ((a[i].1.length : Int) = (b[i].1.length : Int)) = True := eq_true (by omega)
    have e3'' : (a[i].1.length = b[i].1.length) = True := eq_true e3
    by_cases e1 : a[i].1 = b[i].1
    · rw [if_pos e1] at k
      have hc2 : (a[i] = b[i]) = True := eq_true (Prod.ext e1 e2)
      simp only [hc2, true_and]
      clear hpe e2 e3 e1 hc2
      refine tree_lim rfl rfl ?_
      simp [h, hla, hlb, e2', e3', e3'', k, hw, ih]
    · rw [if_neg e1] at k
      rw [if_neg fun h => e1 (by rw [h.1])]
      clear hpe e2 e3
      refine tree_lim rfl rfl ?_
      simp [h, hla, hlb, e2', e3', e3'', k]
theorem same97 (a b : List Row) (hal : a.length ≤ 1000) (fa : Few a) : TT.lim 73 [.l (a.map row), .l (b.map row)] = some [.b (decide (a = b))] := by
  by_cases hl : a.length = b.length
  · have k : TT.lim 74 [.l (a.map row), .l (b.map row), .i .i64 a.length, .i .i64 0] = _ := loop98 a b hl hal fa a.length 0 (by omega)
    rw [List.drop_zero, List.drop_zero] at k
    have hl' : ((a.length : Int) = (b.length : Int)) = True := eq_true (by omega)
    have hl'' : (a.length = b.length) = True := eq_true hl
    clear hl
    by_cases e : a = b
    · rw [if_pos e] at k
      rw [decide_eq_true e]
      clear e
      refine fn_lim rfl rfl ?_ rfl
      simp [hl', hl'', k]
    · rw [if_neg e] at k
      rw [decide_eq_false e]
      refine fn_lim rfl rfl ?_ rfl
      simp [hl', hl'', k]
  · rw [decide_eq_false fun e => hl (by rw [e])]
    have hl' : ¬ (a.length : Int) = (b.length : Int) := by omega
    refine fn_lim rfl rfl ?_ rfl
    simp [hl, hl']
theorem sameS100 (x y : Sn) (hx : GoodT x.2) : TT.lim 72 [sn x, sn y] = some [.b (decide (x.1 = y.1) && decide (x.2 = y.2))] := by
  have k := same97 x.2 y.2 (by have := hx.len; omega) hx.few
  refine fn_lim rfl rfl ?_ rfl
  by_cases h1 : x.1 = y.1
  · have h1' : (x.1 = y.1) = True := eq_true h1
    clear h1
    simp [h1', k]
  · simp [h1]
theorem sameS100_refl (x : Sn) (hx : GoodT x.2) : TT.lim 72 [sn x, sn x] = some [.b true] := by
  have k := sameS100 x x hx
  simpa using k
def diffF (s : List Row) : List Row → List Row
  | [] => []
  | r :: rs => if r.2 = val s (K r) then diffF s rs else (r.1, IntKind.u64.wrap (r.2 - val s (K r))) :: diffF s rs
theorem loop84 (n s : List Row) (e f : Int) (hn : n.length ≤ 300) (fn : Few n) (hs : s.length ≤ 300) (fs : Few s) : ∀ (m i : Nat) (acc : List Row), i + m = n.length → acc.length ≤ i →
    TT.lim 66 [.l (n.map row), .i .i64 n.length, .i .i64 i, .i .u64 e, .i .u64 f, .l (acc.map row), .l (s.map row)] = some [.i .i64 0, .l ((acc ++ diffF s (n.drop i)).map row)]
  | 0, i, acc, hi, ha => by
    have h0 : n.drop i = [] := List.drop_eq_nil_of_le (by omega)
    have h : ¬ ((i : Int) < n.length) := by omega
    refine tree_lim rfl rfl ?_
    simp [h, h0, diffF]
  | m + 1, i, acc, hi, ha => by
    have hlt : i < n.length := by omega
    have k := get82 s n[i].1 (by omega) fs (fn _ (List.getElem_mem hlt))
    have h : ((i : Int) < n.length) := by omega
    have hw := wrap64 (n := (i : Int) + 1) (by omega) (by omega)
    have hok : ∀ r : Row, (row r).elemOk 2 = true := fun r => rfl
    have hb : 2 * (acc.length + 1) * 32 ≤ 281474976710656 ∧ acc.length + 1 ≤ 281474976710656 := by omega
    have hc : diffF s (n.drop i) = if n[i].2 = val s (keyF n[i].1) then diffF s (n.drop (i + 1)) else (n[i].1, IntKind.u64.wrap (n[i].2 - val s (keyF n[i].1))) :: diffF s (n.drop (i + 1)) := by
      rw [List.drop_eq_getElem_cons hlt]; rfl
    rw [hc]
    by_cases e1 : n[i].2 = val s (keyF n[i].1)
    · have ih : TT.lim 66 [.l (n.map row), .i .i64 n.length, .i .i64 ((i : Int) + 1), .i .u64 e, .i .u64 f, .l (acc.map row), .l (s.map row)] = _ := loop84 n s e f hn fn hs fs m (i + 1) acc (by omega) (by omega)
      rw [if_pos e1]
      generalize hL : (acc ++ diffF s (n.drop (i + 1))).map row = L at ih ⊢
      have e1' : (n[i].2 = val s (keyF n[i].1)) = True := eq_true e1
      clear e1 hc
      generalize val s (keyF n[i].1) = v at *
      refine tree_lim rfl rfl ?_
      simp [h, hlt, k, e1', hw, ih]
    · have ih : TT.lim 66 [.l (n.map row), .i .i64 n.length, .i .i64 ((i : Int) + 1), .i .u64 e, .i .u64 f, .l ((acc ++ [(n[i].1, IntKind.u64.wrap (n[i].2 - val s (keyF n[i].1)))]).map row), .l (s.map row)] = _ := loop84 n s e f hn fn hs fs m (i + 1) (acc ++ [(n[i].1, IntKind.u64.wrap (n[i].2 - val s (keyF n[i].1)))]) (by omega) (by simp; omega)
      rw [if_neg e1]
      rw [List.append_assoc, List.singleton_append] at ih
      clear hc
      generalize val s (keyF n[i].1) = v at *
      have he : GV.g [GV.l (n[i].1.map ent), GV.i .u64 (IntKind.u64.wrap (n[i].2 - v))] = row (n[i].1, IntKind.u64.wrap (n[i].2 - v)) := rfl
      generalize hL : (acc ++ (n[i].1, IntKind.u64.wrap (n[i].2 - v)) :: diffF s (n.drop (i + 1))).map row = L at ih ⊢
      simp only [List.map_append, List.map_cons, List.map_nil] at ih
      refine tree_lim rfl rfl ?_
      simp [h, hlt, k, e1, he, hok, hb, hw, ih]
theorem diffF_facts {s : List Row} (hs : Pos s) : ∀ n : List Row, Rise n → Pos n → (∀ r ∈ n, val s (K r) ≤ r.2) →
    Rise (diffF s n) ∧ (∀ x ∈ diffF s n, ∃ r ∈ n, r.1 = x.1) ∧ Pos (diffF s n) ∧ ∀ r ∈ n, val (diffF s n) (K r) = r.2 - val s (K r)
  | [], _, _, _ => ⟨List.Pairwise.nil, by simp [diffF], by simp [diffF, Pos], by simp⟩
  | r :: n, hr, hp, hv => by
    have hr' := List.pairwise_cons.1 hr
    obtain ⟨h1, h2, h3, h4⟩ := diffF_facts hs n hr'.2 (fun x hx => hp x (by simp [hx])) (fun x hx => hv x (by simp [hx]))
    have b1 := hp r (by simp)
    have b2 := hv r (by simp)
    have b3 := val_nonneg hs (K r)
    have hw := wrapu64 (n := r.2 - val s (K r)) (by omega) (by omega)
    have hlow : ∀ x ∈ diffF s n, K r < K x := fun x hx => by
      obtain ⟨y, hy, e⟩ := h2 x hx
      show K r < keyF x.1
      rw [← e]; exact hr'.1 y hy
    unfold diffF
    by_cases e : r.2 = val s (K r)
    · rw [if_pos e]
      refine ⟨h1, fun x hx => ?_, h3, fun x hx => ?_⟩
      · obtain ⟨y, hy, e⟩ := h2 x hx; exact ⟨y, by simp [hy], e⟩
      · rcases List.mem_cons.1 hx with rfl | hx
        · rw [val_above hlow]; omega
        · exact h4 x hx
    · rw [if_neg e, hw]
      refine ⟨List.Pairwise.cons (fun x hx => hlow x hx) h1, fun x hx => ?_, fun x hx => ?_, fun x hx => ?_⟩
      · rcases List.mem_cons.1 hx with rfl | hx
        · exact ⟨r, by simp, rfl⟩
        · obtain ⟨y, hy, e⟩ := h2 x hx; exact ⟨y, by simp [hy], e⟩
      · rcases List.mem_cons.1 hx with rfl | hx
        · exact ⟨by simp only; omega, by simp only; omega⟩
        · exact h3 x hx
      · show (if K r = K x then r.2 - val s (K r) else val (diffF s n) (K x)) = _
        rcases List.mem_cons.1 hx with rfl | hx
        · rw [if_pos rfl]
        · rw [if_neg fun e => by have := hr'.1 x hx; rw [e] at this; exact List.lt_irrefl _ this]
          exact h4 x hx
theorem diffF_eq {s n : List Row} (hs : Tb s) (hn : Tb n) (h : atL n s = true) : diffF s n = diffR n s := by
  have h' := (atL_iff _ _ hn.rise hs.rise).1 h
  have hle : ∀ r ∈ n, val s (K r) ≤ r.2 := fun r hr => by
    rcases val_cases s (K r) with ⟨x, h1, h2, h3⟩ | ⟨_, h2⟩
    · obtain ⟨y, hy, e1, e2⟩ := h' x h1
      have : y = r := rise_key hn.rise hy hr (e1.trans h2)
      rw [h3, ← this]; exact e2
    · have := hn.pos r hr; omega
  obtain ⟨h1, h2, h3, h4⟩ := diffF_facts hs.pos n hn.rise hn.pos hle
  obtain ⟨q1, q2⟩ := diff_tb hs hn h
  refine val_ext h1 q1.rise h3 q1.pos fun k => ?_
  rw [q2]
  rcases val_cases n k with ⟨r, c1, c2, c3⟩ | ⟨c1, c2⟩
  · rw [← c2, h4 r c1, val_mem hn.rise r c1]
  · have : val s k = 0 := val_none fun x hx e => by
      obtain ⟨y, hy, e1, _⟩ := h' x hx
      exact c1 y hy (e1.trans e)
    rw [c2, this, val_none fun x hx e => ?_]
    · rfl
    · obtain ⟨y, hy, e2⟩ := h2 x hx
      exact c1 y hy (by show keyF y.1 = k; rw [e2]; exact e)
theorem diff58 (s n : Sn) (hs : GoodT s.2) (hn : GoodT n.2) : TT.lim 40 [sn s, sn n] = some [dl (diffS s n).1, .i .i64 (diffS s n).2] := by
  have k1 := check59 s.2 hs.rows hs.few
  have k2 := check59 n.2 hn.rows hn.few
  have e3 : GV.g [.i .u64 0, .i .u64 0, .l []] = dl zD := rfl
  have e4 : GV.g [.i .u64 s.1, .i .u64 n.1, .l ((diffR n.2 s.2).map row)] = dl (s.1, n.1, diffR n.2 s.2) := rfl
  have k5 : TT.lim 66 [.l (n.2.map row), .i .i64 n.2.length, .i .i64 0, .i .u64 s.1, .i .u64 n.1, .l [], .l (s.2.map row)] = _ := loop84 n.2 s.2 s.1 n.1 hn.len hn.few hs.len hs.few n.2.length 0 [] (by omega) (by simp)
  rw [List.drop_zero, List.nil_append] at k5
  unfold diffS
  by_cases h1 : checkT s.2 = 0
  rotate_left
  · refine fn_lim rfl rfl ?_ rfl
    simp [k1, h1, e3]
  by_cases h2 : checkT n.2 = 0
  rotate_left
  · refine fn_lim rfl rfl ?_ rfl
    simp [k1, h1, k2, h2, e3]
  by_cases h3 : n.1 ≤ s.1
  · refine fn_lim rfl rfl ?_ rfl
    simp [k1, h1, k2, h2, e3, h3]
  have ts := hs.tb ((checkT_iff _).1 h1)
  have tn := hn.tb ((checkT_iff _).1 h2)
  have k4 := atLeast80 n.2 s.2 (by have := hn.len; omega) hn.few (by have := hs.len; omega) hs.few
  rw [atLF_eq tn ts] at k4
  cases h4 : atL n.2 s.2 with
  | false =>
    rw [h4] at k4
    refine fn_lim rfl rfl ?_ rfl
    simp [k1, h1, k2, h2, e3, h3, k4]
  | true =>
    rw [h4] at k4
    rw [diffF_eq ts tn h4] at k5
    refine fn_lim rfl rfl ?_ rfl
    simp [k1, h1, k2, h2, e4, h3, k4, k5]
def common : List UInt8 → List UInt8 → Nat
  | a :: x, b :: y => if a = b then common x y + 1 else 0
  | _, _ => 0
theorem common_le : ∀ a b : List UInt8, common a b ≤ a.length ∧ common a b ≤ b.length
  | [], b => by simp [common]
  | _ :: _, [] => by simp [common]
  | a :: x, b :: y => by
    unfold common
    have := common_le x y
    split
    · simp only [List.length_cons]; omega
    · omega
theorem rcomLoop (a b : List UInt8) (ha : a.length ≤ 140737488351232) (hb : b.length ≤ 140737488351232) : ∀ m i : Nat, i + m = a.length →
    TT.lim 98 [.s a, .s b, .i .i64 i] = some (if common (a.drop i) (b.drop i) < a.length - i ∧ common (a.drop i) (b.drop i) < b.length - i then [.i .i64 0, .i .i64 ((i + common (a.drop i) (b.drop i) : Nat) : Int)] else [.i .i64 1])
  | 0, i, hi => by
    have h0 : a.drop i = [] := List.drop_eq_nil_of_le (by omega)
    have h : ¬ ((i : Int) < a.length) := by omega
    have h2 : ¬ (common ([] : List UInt8) (b.drop i) < a.length - i ∧ common [] (b.drop i) < b.length - i) := by omega
    rw [h0, if_neg h2]
    refine tree_lim rfl rfl ?_
    simp [h]
  | m + 1, i, hi => by
    have hlt : i < a.length := by omega
    have h : ((i : Int) < a.length) := by omega
    by_cases hlb : i < b.length
    rotate_left
    · have h1 : ¬ ((i : Int) < b.length) := by omega
      rw [if_neg (by omega)]
      refine tree_lim rfl rfl ?_
      simp [h, h1]
    have hb1 : ((i : Int) < b.length) := by omega
    have ih : TT.lim 98 [.s a, .s b, .i .i64 ((i : Int) + 1)] = _ := rcomLoop a b ha hb m (i + 1) (by omega)
    have hw := wrap64 (n := (i : Int) + 1) (by omega) (by omega)
    have hc : common (a.drop i) (b.drop i) = if a[i] = b[i] then common (a.drop (i + 1)) (b.drop (i + 1)) + 1 else 0 := by
      rw [List.drop_eq_getElem_cons hlt, List.drop_eq_getElem_cons hlb]; rfl
    rw [hc]
    by_cases e : a[i] = b[i]
    · rw [if_pos e]
      have e' : ((a[i].toNat : Int) = (b[i].toNat : Int)) = True := eq_true (by rw [e])
      have e2 : ((i + (common (a.drop (i + 1)) (b.drop (i + 1)) + 1) : Nat) : Int) = ((i + 1 + common (a.drop (i + 1)) (b.drop (i + 1)) : Nat) : Int) := by omega
      have e3 : (common (a.drop (i + 1)) (b.drop (i + 1)) + 1 < a.length - i ∧ common (a.drop (i + 1)) (b.drop (i + 1)) + 1 < b.length - i) = (common (a.drop (i + 1)) (b.drop (i + 1)) < a.length - (i + 1) ∧ common (a.drop (i + 1)) (b.drop (i + 1)) < b.length - (i + 1)) := by
        apply propext; omega
      rw [e2]
      simp only [e3]
      refine tree_lim rfl rfl ?_
      simp [-Int.natCast_add, h, hlt, hlb, hb1, e', hw, ih]
    · rw [if_neg e]
      have e' : ¬ (a[i].toNat : Int) = (b[i].toNat : Int) := fun h => e (UInt8.toNat_inj.1 (by omega))
      rw [if_pos (by omega)]
      refine tree_lim rfl rfl ?_
      simp [h, hlt, hlb, hb1, e']
theorem rcomP (a b : List UInt8) (ha : a.length ≤ 140737488351232) (hb : b.length ≤ 140737488351232) : TT.lim 97 [.s a, .s b] = some [.i .i64 (common a b)] := by
  have k : TT.lim 98 [.s a, .s b, .i .i64 0] = _ := rcomLoop a b ha hb a.length 0 (by omega)
  rw [List.drop_zero, List.drop_zero, Nat.zero_add, Nat.sub_zero, Nat.sub_zero] at k
  have hl := common_le a b
  refine fn_lim rfl rfl ?_ rfl
  by_cases hc : common a b < a.length ∧ common a b < b.length
  · rw [if_pos hc] at k
    simp [k]
  · rw [if_neg hc] at k
    by_cases h2 : (b.length : Int) < a.length
    · have : (common a b : Int) = b.length := by omega
      simp [k, h2, this]
    · have : (common a b : Int) = a.length := by omega
      simp [k, h2, this]
/-- A text behind another one, as it is written. -/
def oneF (a s : List UInt8) : List UInt8 := vput (common a s) ++ vput (s.length - common a s) ++ s.drop (common a s)
theorem oneF_len (a s : List UInt8) (hs : s.length ≤ 100000000) : (oneF a s).length ≤ 20 + s.length := by
  have hl := common_le a s
  have l1 := vput_len (n := common a s) (by omega)
  have l2 := vput_len (n := s.length - common a s) (by omega)
  unfold oneF
  simp only [List.length_append, List.length_drop]
  omega
theorem roneP (a s : List UInt8) (ha : a.length ≤ 100000000) (hs : s.length ≤ 100000000) : TT.lim 96 [.s a, .s s] = some [.s (oneF a s)] := by
  have k := rcomP a s (by omega) (by omega)
  have hl := common_le a s
  have p1 := put75 (common a s) (by omega)
  have p2 := put75 (s.length - common a s) (by omega)
  have l1 := vput_len (n := common a s) (by omega)
  have l2 := vput_len (n := s.length - common a s) (by omega)
  have w1 := wrapu64 (n := (common a s : Int)) (by omega) (by omega)
  have w2 := wrapu64 (n := (s.length : Int) - (common a s : Int)) (by omega) (by omega)
  have w3 := wrap64 (n := (s.length : Int) - (common a s : Int)) (by omega) (by omega)
  have e2 : (s.length : Int) - (common a s : Int) = ((s.length - common a s : Nat) : Int) := by omega
  rw [e2] at w2 w3
  refine fn_lim rfl rfl ?_ rfl
  unfold oneF
  generalize common a s = c at *
  have h1 : ((vput c).length : Int) + ((vput (s.length - c)).length : Int) ≤ 9223372036854775807 := by omega
  have h2 : ((vput c).length : Int) + ((vput (s.length - c)).length : Int) + ((s.length : Int) - (c : Int)) ≤ 9223372036854775807 := by omega
  have h3 : (c : Int) ≤ s.length := by omega
  have h4 : ((s.length - c : Nat) : Int) = (s.length : Int) - c := by omega
  have hd : (s.take s.length).drop c = s.drop c := by rw [List.take_length]
  rw [← e2] at w2 w3
  rw [← e2] at p2
  simp [k, p1, p2, w1, w2, w3, h1, h2, h3, h4, hd]
def rowsPut : List UInt8 → List Row → List UInt8
  | _, [] => []
  | a, r :: t => oneF a (keyF r.1) ++ (vput r.2.toNat ++ rowsPut (keyF r.1) t)
/-- A table, as it is written. -/
def packF (t : List Row) : List UInt8 := vput t.length ++ rowsPut [] t
def putK (t : List Row) : List UInt8 × Int := if checkT t ≠ 0 then ([], checkT t) else (packF t, 0)
theorem rkputStep0 (L : List GV) (n : Int) (D : List Ent) (N : Int) (k O V acc : List UInt8) (R : List GV) (h : 0 < n) (hg : L[0]? = some (row (D, N))) (k1 : TT.lim 56 [.l (D.map ent)] = some [.s k]) (k2 : TT.lim 96 [.s [], .s k] = some [.s O])
    (k3 : TT.lim 57 [.i .u64 N] = some [.s V]) (hb1 : (acc.length : Int) + (O.length : Int) ≤ 9223372036854775807) (hb2 : (acc.length : Int) + (O.length : Int) + (V.length : Int) ≤ 9223372036854775807)
    (ih : TT.lim 95 [.l L, .s (acc ++ (O ++ V)), .i .i64 n, .i .i64 1] = some R) :
    TT.lim 95 [.l L, .s acc, .i .i64 n, .i .i64 0] = some R := by
  have w1 := wrap64 (n := 1) (by omega) (by omega)
  refine tree_lim rfl rfl ?_
  simp [h, hg, w1, k1, k2, k3, hb1, hb2, ih]
theorem rkputStep (L : List GV) (n i : Int) (D E : List Ent) (N M : Int) (k k' O V acc : List UInt8) (R : List GV) (j : Nat) (hi : i = (j : Int) + 1) (h : i < n) (h0 : (0 : Int) < i) (hg : L[j + 1]? = some (row (D, N))) (hg' : L[j]? = some (row (E, M))) (hw : IntKind.i64.wrap (i + 1) = i + 1) (hw2 : IntKind.i64.wrap (i - 1) = i - 1) (hn1 : (i - 1).toNat = j) (hn2 : i.toNat = j + 1) (hn0 : (0 : Int) ≤ i - 1) (hn3 : (1 : Int) ≤ i) (hn4 : (0 : Int) ≤ i)
    (k1 : TT.lim 56 [.l (D.map ent)] = some [.s k]) (k1' : TT.lim 56 [.l (E.map ent)] = some [.s k']) (k2 : TT.lim 96 [.s k', .s k] = some [.s O])
    (k3 : TT.lim 57 [.i .u64 N] = some [.s V]) (hb1 : (acc.length : Int) + (O.length : Int) ≤ 9223372036854775807) (hb2 : (acc.length : Int) + (O.length : Int) + (V.length : Int) ≤ 9223372036854775807)
    (ih : TT.lim 95 [.l L, .s (acc ++ (O ++ V)), .i .i64 n, .i .i64 (i + 1)] = some R) :
    TT.lim 95 [.l L, .s acc, .i .i64 n, .i .i64 i] = some R := by
  clear hi
  refine tree_lim rfl rfl ?_
  simp [h, h0, hg, hg', hw, hw2, hn0, hn1, hn2, hn3, hn4, k1, k1', k2, k3, hb1, hb2, ih]
theorem rkputLoop (l : List Row) (hl : l.length ≤ 1000) (hf : ∀ r ∈ l, few12 r.1 = true ∧ 0 ≤ r.2 ∧ r.2 < 18446744073709551616) : ∀ (m i : Nat) (acc : List UInt8), i + m = l.length → acc.length ≤ 10 + 40000 * i →
    TT.lim 95 [.l (l.map row), .s acc, .i .i64 l.length, .i .i64 i] = some [.i .i64 0, .s (acc ++ rowsPut (if 0 < i then ((l[i - 1]?).map K).getD [] else []) (l.drop i))]
  | 0, i, acc, hi, hacc => by
    have hd : l.drop i = [] := List.drop_eq_nil_of_le (by omega)
    have h : ¬ ((i : Int) < l.length) := by omega
    rw [hd]
    refine tree_lim rfl rfl ?_
    simp [h, rowsPut]
  | m + 1, i, acc, hi, hacc => by
    have hlt : i < l.length := by omega
    obtain ⟨h1, h2, h3⟩ := hf l[i] (List.getElem_mem hlt)
    have hk := key_len h1
    have k1 := key74 l[i].1 h1
    have k3 := put75 l[i].2.toNat (by omega)
    rw [show ((l[i].2.toNat : Nat) : Int) = l[i].2 by omega] at k3
    have hv := vput_len (n := l[i].2.toNat) (by omega)
    have he : ∀ a, acc ++ rowsPut a (l.drop i) = acc ++ (oneF a (keyF l[i].1) ++ vput l[i].2.toNat) ++ rowsPut (keyF l[i].1) (l.drop (i + 1)) := by
      intro a
      rw [List.drop_eq_getElem_cons hlt]; simp [rowsPut]
    have ih := fun a (ha : (oneF a (keyF l[i].1)).length ≤ 20 + (keyF l[i].1).length) => rkputLoop l hl hf m (i + 1) (acc ++ (oneF a (keyF l[i].1) ++ vput l[i].2.toNat)) (by omega) (by simp only [List.length_append]; omega)
    have hpr : (if 0 < i + 1 then ((l[i + 1 - 1]?).map K).getD [] else []) = keyF l[i].1 := by simp [hlt]
    rw [hpr, show ((i + 1 : Nat) : Int) = (i : Int) + 1 by omega] at ih
    by_cases h0 : i = 0
    · subst h0
      rw [if_neg (by omega), he]
      have k2 := roneP [] (keyF l[0].1) (by simp) (by omega)
      have ho := oneF_len [] (keyF l[0].1) (by omega)
      exact rkputStep0 _ _ l[0].1 l[0].2 _ _ _ acc _ (by omega) (by simp [hlt]) k1 k2 k3 (by omega) (by omega) (ih [] ho)
    · obtain ⟨j, rfl⟩ : ∃ j, i = j + 1 := ⟨i - 1, by omega⟩
      have hj : j < l.length := by omega
      obtain ⟨g1, _, _⟩ := hf l[j] (List.getElem_mem hj)
      have k1' := key74 l[j].1 g1
      have hkj := key_len g1
      rw [if_pos (by omega), show ((l[j + 1 - 1]?).map K).getD [] = keyF l[j].1 by simp [hj], he]
      have k2 := roneP (keyF l[j].1) (keyF l[j + 1].1) (by omega) (by omega)
      have ho := oneF_len (keyF l[j].1) (keyF l[j + 1].1) (by omega)
      exact rkputStep _ _ _ l[j + 1].1 l[j].1 l[j + 1].2 l[j].2 _ _ _ _ acc _ j (by omega) (by omega) (by omega) (by simp [hlt]) (by simp [hj]) (wrap64 (by omega) (by omega)) (wrap64 (by omega) (by omega)) (by omega) (by omega) (by omega) (by omega) (by omega) k1 k1' k2 k3 (by omega) (by omega) (ih _ ho)
theorem rkputP (t : List Row) (ht : Rows t) (hf : Few t) : TT.lim 93 [.l (t.map row)] = some [.s (putK t).1, .i .i64 (putK t).2] := by
  have k1 := check59 t ht hf
  unfold putK
  by_cases hc : checkT t = 0
  rotate_left
  · rw [if_pos hc]
    refine fn_lim rfl rfl ?_ (by rfl)
    simp [k1, hc]
  rw [if_neg (fun e => e hc)]
  rw [hc] at k1
  have h256 := ((checkT_iff t).1 hc).1
  have hff : ∀ r ∈ t, few12 r.1 = true ∧ 0 ≤ r.2 ∧ r.2 < 18446744073709551616 := fun r hr => ⟨hf r hr, (ht.2 r hr).2.1, (ht.2 r hr).2.2⟩
  have k2 := put75 t.length (by omega)
  have l2 := vput_len (n := t.length) (by omega)
  have k3 := rkputLoop t (by omega) hff t.length 0 (vput t.length) (by omega) (by omega)
  rw [List.drop_zero, if_neg (by omega), show ((0 : Nat) : Int) = 0 from rfl] at k3
  have hk3 : TT.lim 95 [.l (t.map row), .s (vput t.length), .i .i64 t.length, .i .i64 0] = some [.i .i64 0, .s (packF t)] := k3
  have w := wrapu64 (n := (t.length : Int)) (by omega) (by omega)
  have hlm : (t.map row).length = t.length := by simp
  generalize packF t = P at *
  generalize vput t.length = V at *
  generalize t.map row = L at *
  have kt : TT.lim 94 [.l L] = some [.s P] := by
    refine fn_lim rfl rfl ?_ rfl
    simp [hlm, w, k2, hk3]
  refine fn_lim rfl rfl ?_ rfl
  simp [k1, kt]
structure TOk (t : List Row) : Prop where
  ok : Ok t
  few : Few t
  rows : Rows t
theorem TOk.tb {t : List Row} (h : TOk t) : checkT t = 0 := (checkT_iff t).2 h.ok
theorem TOk.len {t : List Row} (h : TOk t) : t.length ≤ 256 := h.ok.1
theorem TOk.good {t : List Row} (h : TOk t) : GoodT t := ⟨Nat.le_trans h.len (by decide), h.few, h.rows⟩
end X
end Go.Proofs.YtbcpbplkgknnmaaGreatDoor
