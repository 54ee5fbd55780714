/- What the trees compute: plain laws. -/
import Derived.Test.YtehcokoigbiciaaGreatDoorKWT
import Derived.Test.YtehcokoigbiciaaGreatDoorAbsPl
import Derived.Test.YtehcokoigbiciaaGreatDoorAbsTold
import Derived.Lib.TrimUEq
import Derived.Lib.MapLaws
import Derived.KernelRfl
namespace Go.Proofs.YtehcokoigbiciaaGreatDoor
open Go Go.Abs
set_option linter.unusedSimpArgs false
set_option linter.unusedVariables false
set_option maxRecDepth 100000
namespace W
theorem bytesLess_lt : ∀ a b : List UInt8, Op.bytesLess a b = decide (a < b)
  | _, [] => by simp [Op.bytesLess]
  | [], _ :: _ => by simp [Op.bytesLess]
  | a :: x, b :: y => by
    rw [Op.bytesLess, bytesLess_lt x y, Bool.eq_iff_iff]
    simp [List.cons_lt_cons_iff]
/-- An entry: key and value. A row: its entries and its number. -/
abbrev Ent := List UInt8 × List UInt8
abbrev Row := List Ent × Int
def ent (x : Ent) : GV := .g [.s x.1, .s x.2]
def row (r : Row) : GV := .g [.l (r.1.map ent), .i .u64 r.2]
@[simp] theorem ent_cells (x : Ent) : (ent x).cells = [.s x.1, .s x.2] := rfl
@[simp] theorem row_cells (r : Row) : (row r).cells = [.l (r.1.map ent), .i .u64 r.2] := rfl
@[simp] theorem ent_scalar (x : Ent) : (ent x).scalar = false := rfl
@[simp] theorem row_scalar (r : Row) : (row r).scalar = false := rfl
/-- Texts and lists of no more than any machine bears. -/
def Ents (d : List Ent) : Prop := d.length ≤ 140737488351232 ∧ ∀ x ∈ d, x.1.length ≤ 140737488351232 ∧ x.2.length ≤ 140737488351232
def Rows (l : List Row) : Prop := l.length ≤ 140737488351232 ∧ ∀ r ∈ l, Ents r.1 ∧ 0 ≤ r.2 ∧ r.2 < 18446744073709551616
def fewE (x : Ent) : Bool := decide (x.1.length + x.2.length ≤ 600)
theorem loop5 (d : List Ent) (hd : Ents d) : ∀ m i : Nat, i + m = d.length → TT.lim 5 [.l (d.map ent), .i .i64 d.length, .i .i64 i] = some (if (d.drop i).all fewE = true then [.i .i64 1] else [.i .i64 0])
  | 0, i, hi => by
    have h0 : d.drop i = [] := List.drop_eq_nil_of_le (by omega)
    refine tree_lim rfl rfl ?_
    have h : ¬ ((i : Int) < d.length) := by omega
    simp [h, h0]
  | m + 1, i, hi => by
    have hlt : i < d.length := by omega
    have ih : TT.lim 5 [.l (d.map ent), .i .i64 d.length, .i .i64 ((i : Int) + 1)] = _ := loop5 d hd m (i + 1) (by omega)
    refine tree_lim rfl rfl ?_
    have h : ((i : Int) < d.length) := by omega
    have hw := wrap64 (n := (i : Int) + 1) (by omega) (by have := hd.1; omega)
    have hx := hd.2 d[i] (List.getElem_mem hlt)
    have hw2 := wrap64 (n := (d[i].1.length : Int) + (d[i].2.length : Int)) (by omega) (by omega)
    have hda : (d.drop i).all fewE = (fewE d[i] && (d.drop (i + 1)).all fewE) := by rw [List.drop_eq_getElem_cons hlt, List.all_cons]
    by_cases hf : (600 : Int) < (d[i].1.length : Int) + (d[i].2.length : Int)
    · have : fewE d[i] = false := by unfold fewE; simp; omega
      simp [h, hlt, hw2, hf, hda, this]
    · have : fewE d[i] = true := by unfold fewE; simp; omega
      rw [hda, this, Bool.true_and]
      simp [h, hlt, hw, hw2, hf, ih]
def few12 (d : List Ent) : Bool := d.all fewE && decide (d.length ≤ 40)
theorem few4 (d : List Ent) (hd : Ents d) : TT.lim 4 [.l (d.map ent)] = some [.b (few12 d)] := by
  refine fn_lim rfl rfl ?_ rfl
  have h5 : TT.lim 5 [.l (d.map ent), .i .i64 d.length, .i .i64 0] = _ := loop5 d hd d.length 0 (by omega)
  rw [List.drop_zero] at h5
  cases hc : d.all fewE with
  | false => rw [hc] at h5; simp [h5, few12, hc]
  | true =>
    rw [hc] at h5; simp only [if_true] at h5
    have : (decide ((d.length : Int) ≤ 40)) = decide (d.length ≤ 40) := by rw [Bool.eq_iff_iff]; simp; omega
    simp [h5, few12, hc, this]
def vput (n : Nat) : List UInt8 := if n < 128 then [UInt8.ofNat n] else UInt8.ofNat (n % 128 + 128) :: vput (n / 128)
termination_by n
decreasing_by omega
theorem vput_lt {n : Nat} (h : n < 128) : vput n = [UInt8.ofNat n] := by rw [vput, if_pos h]
theorem vput_ge {n : Nat} (h : ¬ n < 128) : vput n = UInt8.ofNat (n % 128 + 128) :: vput (n / 128) := by rw [vput, if_neg h]
theorem u8_inj {a b : Nat} (ha : a < 256) (hb : b < 256) (h : UInt8.ofNat a = UInt8.ofNat b) : a = b := by
  have := congrArg UInt8.toNat h
  simp at this
  omega
/-- No number's bytes begin another's. -/
theorem vput_inj : ∀ (n m : Nat) (x y : List UInt8), vput n ++ x = vput m ++ y → n = m ∧ x = y := by
  intro n
  induction n using Nat.strongRecOn with
  | _ n ih =>
    intro m x y h
    by_cases hn : n < 128 <;> by_cases hm : m < 128
    · rw [vput_lt hn, vput_lt hm] at h
      simp only [List.cons_append, List.nil_append, List.cons.injEq] at h
      exact ⟨u8_inj (by omega) (by omega) h.1, h.2⟩
    · rw [vput_lt hn, vput_ge hm] at h
      simp only [List.cons_append, List.nil_append, List.cons.injEq] at h
      have := u8_inj (by omega) (by omega) h.1
      omega
    · rw [vput_ge hn, vput_lt hm] at h
      simp only [List.cons_append, List.nil_append, List.cons.injEq] at h
      have := u8_inj (by omega) (by omega) h.1
      omega
    · rw [vput_ge hn, vput_ge hm] at h
      simp only [List.cons_append, List.cons.injEq] at h
      have h1 := u8_inj (by omega) (by omega) h.1
      obtain ⟨h2, h3⟩ := ih (n / 128) (by omega) (m / 128) x y h.2
      exact ⟨by omega, h3⟩
def vsize (n : Nat) : Nat := (vput n).length
theorem shr7 {n : Int} (h0 : 0 ≤ n) : n.fdiv (2 ^ (7 : Nat)) = n / 128 := by
  rw [Int.fdiv_eq_ediv_of_nonneg _ (by decide)]; rfl
theorem shr_u64 {n : Nat} : shG .shr .u64 (n : Int) 7 = some (.i .u64 ((n / 128 : Nat) : Int)) := by
  have : ((n : Int)).fdiv (2 ^ (7 : Nat)) = ((n / 128 : Nat) : Int) := by rw [shr7 (by omega)]; omega
  simp [shG, IntKind.bits]
  exact this
theorem vsize_pos (n : Nat) : 0 < vsize n := by unfold vsize; rw [vput]; split <;> simp
theorem vsize_ge {n : Nat} (h : ¬ n < 128) : vsize n = vsize (n / 128) + 1 := by unfold vsize; rw [vput_ge h]; rfl
theorem vsize_le : ∀ (k n : Nat), 0 < k → n < 128 ^ k → vsize n ≤ k
  | 0, _, h, _ => by omega
  | k + 1, n, _, h => by
    by_cases hn : n < 128
    · unfold vsize; rw [vput_lt hn]; simp
    · rw [vsize_ge hn]
      cases k with
      | zero => simp at h; omega
      | succ k =>
        have : n / 128 < 128 ^ (k + 1) := by rw [Nat.pow_succ] at h; omega
        have := vsize_le (k + 1) (n / 128) (by omega) this
        omega
theorem vsize64 {n : Nat} (h : n < 18446744073709551616) : vsize n ≤ 10 := vsize_le 10 n (by omega) (by omega)
theorem loop9 : ∀ (n s : Nat), s + vsize n ≤ 1000 → n < 18446744073709551616 → TT.lim 9 [.i .u64 n, .i .i64 s] = some [.i .i64 0, .i .i64 ((s + vsize n - 1 : Nat) : Int)] := by
  intro n
  induction n using Nat.strongRecOn with
  | _ n ih =>
    intro s hs hn
    refine tree_lim rfl rfl ?_
    by_cases h : n < 128
    · have h' : ¬ (128 : Int) ≤ n := by omega
      simp [h', vsize, vput_lt h]
    · have h' : (128 : Int) ≤ n := by omega
      have hv := vsize_ge h
      have hp := vsize_pos (n / 128)
      have hw := wrap64 (n := (s : Int) + 1) (by omega) (by omega)
      have ih' : TT.lim 9 [.i .u64 ((n / 128 : Nat) : Int), .i .i64 ((s : Int) + 1)] = _ := ih (n / 128) (by omega) (s + 1) (by omega) (by omega)
      have hn' : s + vsize n - 1 = s + 1 + vsize (n / 128) - 1 := by omega
      rw [hn']
      have h7 : shG .shr .u64 (n : Int) 7 = some (.i .u64 ((n / 128 : Nat) : Int)) := shr_u64
      generalize ((n / 128 : Nat) : Int) = q at h7 ih'
      simp [h', hw, h7, ih']
theorem size8 (n : Nat) (hn : n < 18446744073709551616) : TT.lim 8 [.i .u64 n] = some [.i .i64 (vsize n)] := by
  have hp := vsize_pos n
  have h9 : TT.lim 9 [.i .u64 n, .i .i64 1] = _ := loop9 n 1 (by have := vsize64 hn; omega) hn
  rw [show 1 + vsize n - 1 = vsize n by omega] at h9
  refine fn_lim rfl rfl ?_ rfl
  simp [h9]
/-- The bytes of a number, each with its high bit set. -/
def vraw : Nat → Nat → List Nat
  | 0, _ => []
  | k + 1, n => (n % 128 + 128) :: vraw k (n / 128)
def byteG (n : Nat) : GV := .i .u8 n
theorem and127 (n : Nat) (hn : n < 18446744073709551616) : intG .and .u64 (n : Int) 127 = some (.i .u64 ((n % 128 : Nat) : Int)) := by
  have h1 : ((BitVec.ofInt 64 (n : Int) &&& BitVec.ofInt 64 127).toNat : Nat) = n % 128 := by
    rw [BitVec.toNat_and, BitVec.toNat_ofInt, BitVec.toNat_ofInt]
    have e1 : ((n : Int) % ((2 ^ 64 : Nat) : Int)).toNat = n := by omega
    have e2 : ((127 : Int) % ((2 ^ 64 : Nat) : Int)).toNat = 2 ^ 7 - 1 := by decide
    rw [e1, e2, Nat.and_two_pow_sub_one_eq_mod]
  show some (GV.i .u64 (IntKind.u64.wrap (((BitVec.ofInt 64 (n : Int) &&& BitVec.ofInt 64 127).toNat : Nat) : Int))) = _
  rw [h1, wrapu64 (by omega) (by omega)]
theorem and127_8 (n : Nat) (hn : n < 256) : intG .and .u8 (n : Int) 127 = some (.i .u8 ((n % 128 : Nat) : Int)) := by
  have : ∀ x : Fin 256, IntKind.u8.wrap (((BitVec.ofInt IntKind.u8.bits ((x.val : Nat) : Int) &&& BitVec.ofInt IntKind.u8.bits 127).toNat : Nat) : Int) = ((x.val % 128 : Nat) : Int) := by decide +kernel
  show some (GV.i .u8 _) = some (GV.i .u8 _)
  exact congrArg (fun z => some (GV.i .u8 z)) (this ⟨n, hn⟩)
theorem or128 (n : Nat) (hn : n < 128) : intG .or .u8 (n : Int) 128 = some (.i .u8 ((n + 128 : Nat) : Int)) := by
  have : ∀ x : Fin 128, IntKind.u8.wrap (((BitVec.ofInt IntKind.u8.bits ((x.val : Nat) : Int) ||| BitVec.ofInt IntKind.u8.bits 128).toNat : Nat) : Int) = ((x.val + 128 : Nat) : Int) := by decide +kernel
  show some (GV.i .u8 _) = some (GV.i .u8 _)
  exact congrArg (fun z => some (GV.i .u8 z)) (this ⟨n, hn⟩)
theorem wrapu8 {n : Int} (h0 : 0 ≤ n) (h1 : n < 256) : IntKind.u8.wrap n = n := by
  have : IntKind.u8.wrap n = n % 256 := by simp [IntKind.wrap, IntKind.signed, IntKind.bits]
  rw [this]; omega
@[simp] theorem byteG_cells (n : Nat) : (byteG n).cells = [byteG n] := rfl
@[simp] theorem byteG_scalar (n : Nat) : (byteG n).scalar = true := rfl
@[simp] theorem byteG_put (n : Nat) (v : GV) : (byteG n).put 0 [v] = some v := rfl
theorem bytesG_map : ∀ l : List Nat, (∀ x ∈ l, x < 256) → bytesG (l.map byteG) = some (l.map UInt8.ofNat)
  | [], _ => rfl
  | a :: l, h => by
    have h1 := h a (by simp)
    have h2 := bytesG_map l fun x hx => h x (by simp [hx])
    simp only [List.map_cons, byteG, bytesG] at h2 ⊢
    rw [if_pos (by omega)]
    have : (fun n : Nat => GV.i .u8 (n : Int)) = byteG := rfl
    rw [h2]
    simp
theorem loop10 : ∀ (m n : Nat) (done : List Nat), n < 18446744073709551616 → done.length + m < 1000 →
    TT.lim 10 [.i .u64 n, .l ((done ++ List.replicate m 0).map byteG), .i .i64 ((done.length + m : Nat) : Int), .i .i64 done.length] = some [.i .i64 0, .l ((done ++ vraw m n).map byteG)]
  | 0, n, done, hn, hd => by
    refine tree_lim rfl rfl ?_
    simp [vraw]
  | m + 1, n, done, hn, hd => by
    have hlt : (done.length : Int) < ((done.length + (m + 1) : Nat) : Int) := by omega
    have hw := wrap64 (n := (done.length : Int) + 1) (by omega) (by omega)
    have hw8 := wrapu8 (n := ((n % 128 : Nat) : Int)) (by omega) (by omega)
    have h7 : shG .shr .u64 (n : Int) 7 = some (.i .u64 ((n / 128 : Nat) : Int)) := shr_u64
    have ha := and127 n hn
    have ho := or128 (n % 128) (by omega)
    have ih := loop10 m (n / 128) (done ++ [n % 128 + 128]) (by omega) (by simp; omega)
    have hlen : (done ++ [n % 128 + 128]).length + m = done.length + (m + 1) := by simp; omega
    rw [hlen] at ih
    have hl2 : (((done ++ [n % 128 + 128]).length : Nat) : Int) = (done.length : Int) + 1 := by simp
    rw [hl2] at ih
    have hset : ((done ++ List.replicate (m + 1) 0).map byteG).set done.length (byteG (n % 128 + 128)) = (done ++ [n % 128 + 128] ++ List.replicate m 0).map byteG := by
      rw [List.replicate_succ, ← List.map_set, List.set_append_right _ _ (Nat.le_refl _), Nat.sub_self]
      simp
    have hget : ((done ++ List.replicate (m + 1) 0).map byteG)[done.length]? = some (byteG 0) := by
      rw [List.getElem?_map, List.getElem?_append_right (Nat.le_refl _), Nat.sub_self, List.replicate_succ]; rfl
    have hll : ((done ++ List.replicate (m + 1) 0).map byteG).length = done.length + (m + 1) := by simp
    have hv : done ++ vraw (m + 1) n = done ++ [n % 128 + 128] ++ vraw m (n / 128) := by simp [vraw]
    rw [hv]
    generalize hL : (done ++ List.replicate (m + 1) 0).map byteG = L at *
    refine tree_lim rfl rfl ?_
    have hix : (0 : Int) ≤ (done.length : Int) ∧ (done.length : Int) < (L.length : Int) := by rw [hll]; omega
    have hob : GV.i IntKind.u8 ((n % 128 + 128 : Nat) : Int) = byteG (n % 128 + 128) := rfl
    have hset' : L.set done.length (GV.i IntKind.u8 ((n % 128 + 128 : Nat) : Int)) = (done ++ [n % 128 + 128] ++ List.replicate m 0).map byteG := hset
    generalize (done ++ [n % 128 + 128] ++ List.replicate m 0).map byteG = L2 at ih hset'
    generalize (done ++ [n % 128 + 128] ++ vraw m (n / 128)).map byteG = L3 at ih ⊢
    generalize ((n / 128 : Nat) : Int) = q at h7 ih
    generalize ((n % 128 + 128 : Nat) : Int) = z at ho hset'
    generalize ((n % 128 : Nat) : Int) = rr at ha hw8 ho
    generalize ((done.length + (m + 1) : Nat) : Int) = N at hlt ih ⊢
    simp [hlt, ha, hw8, ho, hix, hget, h7, hw, hset', ih]
theorem vraw_len : ∀ m n, (vraw m n).length = m
  | 0, _ => rfl
  | m + 1, n => by simp [vraw, vraw_len m]
theorem vraw_lt : ∀ m n, ∀ x ∈ vraw m n, x < 256
  | 0, _, x, h => by simp [vraw] at h
  | m + 1, n, x, h => by
    simp only [vraw, List.mem_cons] at h
    rcases h with rfl | h
    · omega
    · exact vraw_lt m _ x h
/-- The last byte without its high bit: as numbers are written. -/
theorem vraw_put : ∀ (s n : Nat), vsize n = s + 1 → ∃ x, (vraw (s + 1) n)[s]? = some x ∧ ((vraw (s + 1) n).set s (x % 128)).map UInt8.ofNat = vput n
  | 0, n, h => by
    have hn : n < 128 := by
      by_cases hn : n < 128
      · exact hn
      · rw [vsize_ge hn] at h; have := vsize_pos (n / 128); omega
    refine ⟨n % 128 + 128, by simp [vraw], ?_⟩
    rw [vput_lt hn]
    simp [vraw]
    rw [Nat.mod_eq_of_lt hn]
  | s + 1, n, h => by
    have hn : ¬ n < 128 := by
      intro hn
      unfold vsize at h; rw [vput_lt hn] at h; simp at h
    rw [vsize_ge hn] at h
    obtain ⟨x, h1, h2⟩ := vraw_put s (n / 128) (by omega)
    refine ⟨x, by simp only [vraw, List.getElem?_cons_succ] at h1 ⊢; exact h1, ?_⟩
    rw [vput_ge hn, ← h2]
    simp [vraw]
theorem put7 (n : Nat) (hn : n < 18446744073709551616) : TT.lim 7 [.i .u64 n] = some [.s (vput n)] := by
  have h8 := size8 n hn
  have hp := vsize_pos n
  have hs := vsize64 hn
  obtain ⟨s, hs1⟩ : ∃ s, vsize n = s + 1 := ⟨vsize n - 1, by omega⟩
  obtain ⟨x, h1, h2⟩ := vraw_put s n hs1
  rw [hs1] at h8
  have h10 : TT.lim 10 [.i .u64 n, .l ((List.replicate (s + 1) 0).map byteG), .i .i64 ((s + 1 : Nat) : Int), .i .i64 0] = some [.i .i64 0, .l ((vraw (s + 1) n).map byteG)] := by
    have := loop10 (s + 1) n [] hn (by simp; omega)
    simpa using this
  have hr : (List.replicate (s + 1) 0).map byteG = List.replicate (s + 1) (GV.i .u8 0) := by rw [List.map_replicate]; rfl
  rw [hr] at h10
  have hx : x < 256 := vraw_lt _ _ x (List.mem_of_getElem? h1)
  have ha := and127_8 x hx
  have hget : ((vraw (s + 1) n).map byteG)[s]? = some (byteG x) := by rw [List.getElem?_map, h1]; rfl
  have hset : ((vraw (s + 1) n).map byteG).set s (GV.i .u8 ((x % 128 : Nat) : Int)) = ((vraw (s + 1) n).set s (x % 128)).map byteG := (List.map_set (f := byteG) (l := vraw (s + 1) n) (i := s) (a := x % 128)).symm
  have hb := bytesG_map ((vraw (s + 1) n).set s (x % 128)) (fun y hy => by
    rcases List.mem_or_eq_of_mem_set hy with hy | rfl
    · exact vraw_lt _ _ y hy
    · omega)
  rw [h2] at hb
  have hlen : (((vraw (s + 1) n).set s (x % 128)).map byteG).length = s + 1 := by simp [vraw_len]
  have hlr : (List.replicate (s + 1) (GV.i .u8 0)).length = s + 1 := by simp
  have hl1 : ((vraw (s + 1) n).map byteG).length = s + 1 := by simp [vraw_len]
  generalize ((vraw (s + 1) n).set s (x % 128)).map byteG = L3 at hset hb hlen
  generalize (vraw (s + 1) n).map byteG = L2 at h10 hget hset hl1
  generalize hrep : List.replicate (s + 1) (GV.i .u8 0) = L1 at h10 hlr
  refine fn_lim rfl rfl ?_ rfl
  have hw := wrap64 (n := (s : Int)) (by omega) (by omega)
  have hcast : ((s + 1 : Nat) : Int) = (s : Int) + 1 := by omega
  rw [hcast] at h8 h10
  have hc1 : (0 : Int) ≤ (s : Int) + 1 ∧ (s : Int) + 1 ≤ 281474976710656 ∧ (s : Int) + 1 ≤ 1152921504606846976 := by omega
  have hc2 : ((s : Int) + 1).toNat = s + 1 := by omega
  have hlt : (s : Int) < (s : Int) + 1 := by omega
  have hs2 : (s : Int) + 1 - 1 = (s : Int) := by omega
  generalize hM : ((x % 128 : Nat) : Int) = M at ha hset
  have hxx : byteG x = .i .u8 x := rfl
  have h48 : s + 1 ≤ 281474976710656 := by omega
  have hg2 : L2[s]'(by omega) = byteG x := by have := hget; rw [List.getElem?_eq_getElem (by omega)] at this; exact Option.some.inj this
  simp [h8, hc1, hc2, hrep, hlr, h10, hl1, hs2, hw, hlt, hget, hg2, ha, hset, hxx, hlen, hb, h48, GV.elemOk]
theorem byteGs_append (a b : List UInt8) : byteGs (a ++ b) = byteGs a ++ byteGs b := by simp [byteGs]
@[simp] theorem byteGs_length (a : List UInt8) : (byteGs a).length = a.length := by simp [byteGs]
theorem byteGs_ok (a : List UInt8) : (byteGs a).all (GV.elemOk 1) = true := by
  rw [List.all_eq_true]
  intro x hx
  obtain ⟨b, _, rfl⟩ := List.mem_map.1 hx
  rfl
theorem bytesG_byteGs : ∀ a : List UInt8, bytesG (byteGs a) = some a
  | [] => rfl
  | x :: a => by
    have ih := bytesG_byteGs a
    simp only [byteGs, List.map_cons, bytesG] at ih ⊢
    have := x.toNat_lt
    rw [if_pos (by omega), ih]
    simp
def entPut (x : Ent) : List UInt8 := vput x.1.length ++ x.1 ++ vput x.2.length ++ x.2
def keyF (d : List Ent) : List UInt8 := vput d.length ++ d.flatMap entPut
theorem vput_len {n : Nat} (h : n < 18446744073709551616) : (vput n).length ≤ 10 := vsize64 h
theorem entput12 (x : Ent) (h1 : x.1.length ≤ 140737488351232) (h2 : x.2.length ≤ 140737488351232) : TT.lim 12 [ent x] = some [.s (entPut x)] := by
  have k1 := put7 x.1.length (by omega)
  have k2 := put7 x.2.length (by omega)
  have l1 := vput_len (n := x.1.length) (by omega)
  have l2 := vput_len (n := x.2.length) (by omega)
  have w1 := wrapu64 (n := (x.1.length : Int)) (by omega) (by omega)
  have w2 := wrapu64 (n := (x.2.length : Int)) (by omega) (by omega)
  refine fn_lim rfl rfl ?_ rfl
  have c1 : ((vput x.1.length).length : Int) + (x.1.length : Int) ≤ 9223372036854775807 := by omega
  have c2 : ((vput x.1.length).length : Int) + ((x.1.length : Int) + ((vput x.2.length).length : Int)) ≤ 9223372036854775807 := by omega
  have c3 : ((vput x.1.length).length : Int) + ((x.1.length : Int) + (((vput x.2.length).length : Int) + (x.2.length : Int))) ≤ 9223372036854775807 := by omega
  simp [w1, w2, k1, k2, c1, c2, c3, entPut, Int.add_assoc]
theorem entPut_len {x : Ent} (h : fewE x = true) : (entPut x).length ≤ 620 := by
  unfold fewE at h
  simp only [decide_eq_true_iff] at h
  have l1 := vput_len (n := x.1.length) (by omega)
  have l2 := vput_len (n := x.2.length) (by omega)
  simp only [entPut, List.length_append]
  omega
theorem flat_len620 : ∀ d : List Ent, d.all fewE = true → (d.flatMap entPut).length ≤ 620 * d.length
  | [], _ => by simp
  | x :: d, h => by
    rw [List.all_cons, Bool.and_eq_true] at h
    have := entPut_len h.1
    have := flat_len620 d h.2
    simp only [List.flatMap_cons, List.length_append, List.length_cons]
    omega
theorem loop11 (d : List Ent) (hf : d.all fewE = true) (hl : d.length ≤ 40) : ∀ (m i : Nat) (acc : List UInt8), i + m = d.length → acc.length ≤ 10 + 620 * i →
    TT.lim 11 [.l (d.map ent), .i .i64 d.length, .i .i64 i, .l (byteGs acc)] = some [.i .i64 0, .l (byteGs (acc ++ (d.drop i).flatMap entPut))]
  | 0, i, acc, hi, ha => by
    have h0 : d.drop i = [] := List.drop_eq_nil_of_le (by omega)
    refine tree_lim rfl rfl ?_
    have h : ¬ ((i : Int) < d.length) := by omega
    simp [h, h0]
  | m + 1, i, acc, hi, ha => by
    have hlt : i < d.length := by omega
    have hx := List.all_eq_true.1 hf d[i] (List.getElem_mem hlt)
    have hx1 := hx
    unfold fewE at hx1
    simp only [decide_eq_true_iff] at hx1
    have hp := entput12 d[i] (by omega) (by omega)
    have hpl := entPut_len hx
    have ih : TT.lim 11 [.l (d.map ent), .i .i64 d.length, .i .i64 ((i : Int) + 1), .l (byteGs (acc ++ entPut d[i]))] = _ := loop11 d hf hl m (i + 1) (acc ++ entPut d[i]) (by omega) (by simp; omega)
    rw [byteGs_append] at ih
    have hd : (d.drop i).flatMap entPut = entPut d[i] ++ (d.drop (i + 1)).flatMap entPut := by rw [List.drop_eq_getElem_cons hlt, List.flatMap_cons]
    rw [hd, ← List.append_assoc]
    refine tree_lim rfl rfl ?_
    have h : ((i : Int) < d.length) := by omega
    have hw := wrap64 (n := (i : Int) + 1) (by omega) (by omega)
    have hok := byteGs_ok (entPut d[i])
    have hb : 2 * (acc.length + (entPut d[i]).length) ≤ 281474976710656 ∧ acc.length + (entPut d[i]).length ≤ 281474976710656 := by omega
    have he : GV.g [GV.s d[i].1, GV.s d[i].2] = ent d[i] := rfl
    simp [-List.all_eq_true, h, hlt, he, hp, hok, hb, hw, ih]
theorem key6 (d : List Ent) (hf : few12 d = true) : TT.lim 6 [.l (d.map ent)] = some [.s (keyF d)] := by
  unfold few12 at hf
  rw [Bool.and_eq_true, decide_eq_true_iff] at hf
  have k := put7 d.length (by omega)
  have l1 := vput_len (n := d.length) (by omega)
  have w1 := wrapu64 (n := (d.length : Int)) (by omega) (by omega)
  have h11 : TT.lim 11 [.l (d.map ent), .i .i64 d.length, .i .i64 0, .l (byteGs (vput d.length))] = _ := loop11 d hf.1 hf.2 d.length 0 (vput d.length) (by omega) (by omega)
  rw [List.drop_zero] at h11
  have hb : 2 * (vput d.length).length ≤ 281474976710656 ∧ (vput d.length).length ≤ 281474976710656 := by omega
  have hok := byteGs_ok (vput d.length)
  have hfl := flat_len620 d hf.1
  have hc : (vput d.length).length + (List.flatMap entPut d).length ≤ 281474976710656 := by omega
  have hbg := bytesG_byteGs (vput d.length ++ d.flatMap entPut)
  refine fn_lim rfl rfl ?_ rfl
  unfold keyF
  generalize d.flatMap entPut = F at *
  simp [-List.all_eq_true, w1, k, hb, hok, h11, hc, hbg]
theorem entPut_inj {x y : Ent} {a b : List UInt8} (h : entPut x ++ a = entPut y ++ b) : x = y ∧ a = b := by
  unfold entPut at h
  simp only [List.append_assoc] at h
  obtain ⟨h1, h2⟩ := vput_inj _ _ _ _ h
  obtain ⟨h3, h4⟩ := List.append_inj h2 h1
  obtain ⟨h5, h6⟩ := vput_inj _ _ _ _ h4
  obtain ⟨h7, h8⟩ := List.append_inj h6 h5
  exact ⟨Prod.ext h3 h7, h8⟩
theorem flat_inj : ∀ {d e : List Ent} {a b : List UInt8}, d.length = e.length → d.flatMap entPut ++ a = e.flatMap entPut ++ b → d = e ∧ a = b
  | [], [], a, b, _, h => ⟨rfl, by simpa using h⟩
  | x :: d, y :: e, a, b, hl, h => by
    simp only [List.flatMap_cons, List.append_assoc] at h
    obtain ⟨h1, h2⟩ := entPut_inj h
    obtain ⟨h3, h4⟩ := flat_inj (by simpa using hl) h2
    exact ⟨by rw [h1, h3], h4⟩
  | [], _ :: _, _, _, hl, _ => by simp at hl
  | _ :: _, [], _, _, hl, _ => by simp at hl
theorem keyF_pre {d e : List Ent} {a b : List UInt8} (h : keyF d ++ a = keyF e ++ b) : d = e ∧ a = b := by
  unfold keyF at h
  simp only [List.append_assoc] at h
  obtain ⟨h1, h2⟩ := vput_inj _ _ _ _ h
  exact flat_inj h1 h2
theorem keyF_inj {d e : List Ent} (h : keyF d = keyF e) : d = e := (keyF_pre (a := []) (b := []) (by simpa using h)).1
def utfChk (s : List UInt8) (lo hi : Int) : Int := if (s.length : Int) < lo then 13 else if hi < (s.length : Int) then 13 else if Lib.validD s = true then 0 else 11
theorem good20 (s : List UInt8) (h : s.length ≤ 140737488351232) : TT.lim 20 [.s s] = some [.b (Lib.validD s)] := by
  have h21 : TT.lim 21 [.s s] = some [.b (Lib.validD s)] := prim_lim (Ds := Ds) (k := 21) (f := validP) rfl (by simp only [validP]; rw [if_pos (by omega)])
  refine fn_lim rfl rfl ?_ rfl
  simp [h21]
theorem check19 (s : List UInt8) (lo hi : Int) (h : s.length ≤ 140737488351232) : TT.lim 19 [.s s, .i .i64 lo, .i .i64 hi] = some [.i .i64 (utfChk s lo hi)] := by
  have h20 := good20 s h
  refine fn_lim rfl rfl ?_ rfl
  unfold utfChk
  by_cases h1 : (s.length : Int) < lo
  · simp [h1]
  · by_cases h2 : hi < (s.length : Int)
    · simp [h1, h2]
    · cases hv : Lib.validD s <;> rw [hv] at h20 <;> simp [h1, h2, h20, hv]
def entChk (x : Ent) : Int := if utfChk x.1 1 64 ≠ 0 then utfChk x.1 1 64 else utfChk x.2 0 256
theorem entcheck18 (x : Ent) (h1 : x.1.length ≤ 140737488351232) (h2 : x.2.length ≤ 140737488351232) : TT.lim 18 [ent x] = some [.i .i64 (entChk x)] := by
  have k1 := check19 x.1 1 64 h1
  have k2 := check19 x.2 0 256 h2
  refine fn_lim rfl rfl ?_ rfl
  unfold entChk
  by_cases h : utfChk x.1 1 64 = 0
  · simp [k1, h, k2]
  · simp [k1, h]
def chkL : Option (List UInt8) → List Ent → Int
  | _, [] => 0
  | p, x :: xs => if entChk x ≠ 0 then entChk x else match p with
    | none => chkL (some x.1) xs
    | some k => if x.1 = k then 14 else if Op.bytesLess x.1 k = true then 7 else chkL (some x.1) xs
def tagged (r : Int) : List GV := if r = 0 then [.i .i64 1] else [.i .i64 0, .i .i64 r]
def prevK (d : List Ent) (i : Nat) : Option (List UInt8) := if i = 0 then none else (d[i - 1]?).map (·.1)
theorem loop17 (d : List Ent) (hd : Ents d) : ∀ m i : Nat, i + m = d.length → TT.lim 17 [.l (d.map ent), .i .i64 d.length, .i .i64 i] = some (tagged (chkL (prevK d i) (d.drop i)))
  | 0, i, hi => by
    have h0 : d.drop i = [] := List.drop_eq_nil_of_le (by omega)
    refine tree_lim rfl rfl ?_
    have h : ¬ ((i : Int) < d.length) := by omega
    simp [h, h0, chkL, tagged]
  | m + 1, i, hi => by
    have hlt : i < d.length := by omega
    have hx := hd.2 d[i] (List.getElem_mem hlt)
    have hp := entcheck18 d[i] hx.1 hx.2
    have ih : TT.lim 17 [.l (d.map ent), .i .i64 d.length, .i .i64 ((i : Int) + 1)] = _ := loop17 d hd m (i + 1) (by omega)
    have hpk : prevK d (i + 1) = some d[i].1 := by unfold prevK; rw [if_neg (by omega)]; simp [hlt]
    rw [hpk] at ih
    have hdr : d.drop i = d[i] :: d.drop (i + 1) := List.drop_eq_getElem_cons hlt
    rw [hdr]
    refine tree_lim rfl rfl ?_
    have h : ((i : Int) < d.length) := by omega
    have hw := wrap64 (n := (i : Int) + 1) (by omega) (by have := hd.1; omega)
    have he : GV.g [GV.s d[i].1, GV.s d[i].2] = ent d[i] := rfl
    by_cases h1 : entChk d[i] = 0
    rotate_left
    · simp [h, hlt, he, hp, h1, chkL, tagged]
    by_cases h0 : i = 0
    · subst h0
      simp only [Int.natCast_zero, Int.zero_add] at hw ih
      simp [h, hlt, he, hp, h1, chkL, prevK, hw]
      simpa using ih
    · have hi1 : i - 1 < d.length := by omega
      have hpk2 : prevK d i = some d[i - 1].1 := by unfold prevK; rw [if_neg h0]; simp [hi1]
      have hw2 := wrap64 (n := (i : Int) - 1) (by omega) (by have := hd.1; omega)
      have hi0 : ¬ ((i : Int) = 0) := by omega
      have hge : (0 : Int) ≤ (i : Int) - 1 := by omega
      have ht : ((i : Int) - 1).toNat = i - 1 := by omega
      have hnl : (1 : Int) ≤ (i : Int) := by omega
      rw [hpk2]
      by_cases h2 : d[i].1 = d[i - 1].1
      · have h2' : (d[i].1 = d[i - 1].1) = True := eq_true h2
        clear h2
        simp [h, hlt, he, hp, h1, hi0, h0, hw2, ht, hi1, h2', chkL, tagged, hnl]
      · cases h3 : Op.bytesLess d[i].1 d[i - 1].1 with
        | true => simp [h, hlt, he, hp, h1, hi0, h0, hw2, ht, hi1, h2, h3, chkL, tagged, hnl]
        | false => simp [h, hlt, he, hp, h1, hi0, h0, hw2, ht, hi1, h2, h3, chkL, hw, ih, hnl]
def descrChk (d : List Ent) : Int := if d.length = 0 then 12 else if 16 < d.length then 13 else chkL none d
theorem check16 (d : List Ent) (hd : Ents d) : TT.lim 16 [.l (d.map ent)] = some [.i .i64 (descrChk d)] := by
  have h17 : TT.lim 17 [.l (d.map ent), .i .i64 d.length, .i .i64 0] = _ := loop17 d hd d.length 0 (by omega)
  have hpk : prevK d 0 = none := rfl
  rw [hpk, List.drop_zero] at h17
  have w1 := wrapu64 (n := (d.length : Int)) (by omega) (by have := hd.1; omega)
  refine fn_lim rfl rfl ?_ rfl
  unfold descrChk
  by_cases h0 : d.length = 0
  · have h0' : (d.length : Int) = 0 := by omega
    have : d = [] := List.eq_nil_of_length_eq_zero h0
    subst this
    simp [IntKind.wrap, IntKind.signed]
  · have h0' : ¬ (d.length : Int) = 0 := by omega
    by_cases h1 : 16 < d.length
    · have h1' : (16 : Int) < (d.length : Int) := by omega
      simp [w1, h0, h1, h0', h1']
    · have h1' : ¬ (16 : Int) < (d.length : Int) := by omega
      by_cases h2 : chkL none d = 0
      · simp only [tagged, h2, if_true] at h17
        simp [w1, h0, h1, h0', h1', h17, h2]
      · simp only [tagged, h2, if_false] at h17
        simp [w1, h0, h1, h0', h1', h17]
def rowChk (r : Row) : Int := if descrChk r.1 ≠ 0 then descrChk r.1 else if r.2 = 0 then 18 else 0
theorem check15 (r : Row) (hd : Ents r.1) : TT.lim 15 [row r] = some [.i .i64 (rowChk r)] := by
  have k := check16 r.1 hd
  refine fn_lim rfl rfl ?_ rfl
  unfold rowChk
  by_cases h : descrChk r.1 = 0
  · by_cases h2 : r.2 = 0
    · simp [k, h, h2]
    · simp [k, h, h2]
  · simp [k, h]
def fewR (long : Bool) (r : Row) : Bool := decide (r.1.length ≤ 18) && few12 r.1 && (!long || decide ((keyF r.1).length ≤ 100))
theorem loop3 (l : List Row) (hl : Rows l) : ∀ m i : Nat, i + m = l.length → TT.lim 3 [.l (l.map row), .i .i64 l.length, .i .i64 i] = some (if (l.drop i).all (fewR (decide (40 < l.length))) = true then [.i .i64 1] else [.i .i64 0])
  | 0, i, hi => by
    have h0 : l.drop i = [] := List.drop_eq_nil_of_le (by omega)
    refine tree_lim rfl rfl ?_
    have h : ¬ ((i : Int) < l.length) := by omega
    simp [h, h0]
  | m + 1, i, hi => by
    have hlt : i < l.length := by omega
    have hr := hl.2 l[i] (List.getElem_mem hlt)
    have ih : TT.lim 3 [.l (l.map row), .i .i64 l.length, .i .i64 ((i : Int) + 1)] = _ := loop3 l hl m (i + 1) (by omega)
    have hda : (l.drop i).all (fewR (decide (40 < l.length))) = (fewR (decide (40 < l.length)) l[i] && (l.drop (i + 1)).all (fewR (decide (40 < l.length)))) := by rw [List.drop_eq_getElem_cons hlt, List.all_cons]
    rw [hda]
    refine tree_lim rfl rfl ?_
    have h : ((i : Int) < l.length) := by omega
    have hw := wrap64 (n := (i : Int) + 1) (by omega) (by have := hl.1; omega)
    have h4 := few4 l[i].1 hr.1
    by_cases h1 : 18 < l[i].1.length
    · have h1' : (18 : Int) < (l[i].1.length : Int) := by omega
      have : fewR (decide (40 < l.length)) l[i] = false := by unfold fewR; simp; omega
      rw [this]
      simp [h, hlt, h1']
    have h1' : ¬ (18 : Int) < (l[i].1.length : Int) := by omega
    have h1d : l[i].1.length ≤ 18 := by omega
    cases hf : few12 l[i].1 with
    | false =>
      rw [hf] at h4
      have : fewR (decide (40 < l.length)) l[i] = false := by unfold fewR; simp [hf]
      rw [this]
      simp [h, hlt, h1', h4]
    | true =>
      rw [hf] at h4
      have k6 := key6 l[i].1 hf
      by_cases h2 : 40 < l.length
      · have h2' : (40 : Int) < (l.length : Int) := by omega
        by_cases h3 : 100 < (keyF l[i].1).length
        · have h3' : (100 : Int) < ((keyF l[i].1).length : Int) := by omega
          have : fewR (decide (40 < l.length)) l[i] = false := by unfold fewR; simp [h2]; omega
          rw [this]
          simp [h, hlt, h1', h4, h2', k6, h3']
        · have h3' : ¬ (100 : Int) < ((keyF l[i].1).length : Int) := by omega
          have : fewR (decide (40 < l.length)) l[i] = true := by unfold fewR; simp [h2, hf, h1d]; omega
          rw [this, Bool.true_and]
          simp [h, hlt, h1', h4, h2', k6, h3', hw, ih]
      · have h2' : ¬ (40 : Int) < (l.length : Int) := by omega
        have : fewR (decide (40 < l.length)) l[i] = true := by unfold fewR; simp [h2, hf, h1d]
        rw [this, Bool.true_and]
        simp [h, hlt, h1', h4, h2', hw, ih]
def few13 (l : List Row) : Bool := l.all (fewR (decide (40 < l.length))) && decide (l.length ≤ 300)
theorem few2 (l : List Row) (hl : Rows l) : TT.lim 2 [.l (l.map row)] = some [.b (few13 l)] := by
  refine fn_lim rfl rfl ?_ rfl
  have h3 : TT.lim 3 [.l (l.map row), .i .i64 l.length, .i .i64 0] = _ := loop3 l hl l.length 0 (by omega)
  rw [List.drop_zero] at h3
  unfold few13
  cases hc : l.all (fewR (decide (40 < l.length))) with
  | false => rw [hc] at h3; simp [h3]
  | true =>
    rw [hc] at h3; simp only [if_true] at h3
    have : (decide ((l.length : Int) ≤ 300)) = decide (l.length ≤ 300) := by rw [Bool.eq_iff_iff]; simp; omega
    simp [h3, this]
theorem few13_few {l : List Row} (h : few13 l = true) : ∀ r ∈ l, few12 r.1 = true := by
  unfold few13 at h
  rw [Bool.and_eq_true] at h
  intro r hr
  have := List.all_eq_true.1 h.1 r hr
  unfold fewR at this
  simp only [Bool.and_eq_true] at this
  exact this.1.2
def keyed (r : Row) : GV := .g [.l (r.1.map ent), .i .u64 r.2, .s (keyF r.1)]
@[simp] theorem keyed_cells (r : Row) : (keyed r).cells = [.l (r.1.map ent), .i .u64 r.2, .s (keyF r.1)] := rfl
def firstErr : List Row → Int
  | [] => 0
  | r :: rs => if rowChk r = 0 then firstErr rs else rowChk r
theorem loop14 (l : List Row) (hl : Rows l) (hf : ∀ r ∈ l, few12 r.1 = true) (h256 : l.length ≤ 256) : ∀ (m i : Nat) (acc : List Row), i + m = l.length → acc.length = i →
    TT.lim 14 [.l (l.map row), .i .i64 l.length, .i .i64 i, .l (acc.map keyed)] = some (if firstErr (l.drop i) = 0 then [.i .i64 1, .l ((acc ++ l.drop i).map keyed)] else [.i .i64 0, .i .i64 (firstErr (l.drop i))])
  | 0, i, acc, hi, ha => by
    have h0 : l.drop i = [] := List.drop_eq_nil_of_le (by omega)
    refine tree_lim rfl rfl ?_
    have h : ¬ ((i : Int) < l.length) := by omega
    simp [h, h0, firstErr]
  | m + 1, i, acc, hi, ha => by
    have hlt : i < l.length := by omega
    have hr := hl.2 l[i] (List.getElem_mem hlt)
    have ih : TT.lim 14 [.l (l.map row), .i .i64 l.length, .i .i64 ((i : Int) + 1), .l ((acc ++ [l[i]]).map keyed)] = _ := loop14 l hl hf h256 m (i + 1) (acc ++ [l[i]]) (by omega) (by simp; omega)
    rw [List.append_assoc, List.singleton_append, ← List.drop_eq_getElem_cons hlt, List.map_append] at ih
    have hfe : firstErr (l.drop i) = if rowChk l[i] = 0 then firstErr (l.drop (i + 1)) else rowChk l[i] := by rw [List.drop_eq_getElem_cons hlt]; rfl
    have k15 := check15 l[i] hr.1
    have k6 := key6 l[i].1 (hf _ (List.getElem_mem hlt))
    have hrow : GV.g [.l (l[i].1.map ent), .i .u64 l[i].2] = row l[i] := rfl
    have hkey : GV.g [.l (l[i].1.map ent), .i .u64 l[i].2, .s (keyF l[i].1)] = keyed l[i] := rfl
    have hok : (keyed l[i]).elemOk 3 = true := rfl
    refine tree_lim rfl rfl ?_
    have h : ((i : Int) < l.length) := by omega
    have hw := wrap64 (n := (i : Int) + 1) (by omega) (by omega)
    by_cases h1 : rowChk l[i] = 0
    · rw [hfe, if_pos h1]
      simp only [List.map_cons, List.map_nil] at ih
      have hb : 2 * (acc.length + 1) * 48 ≤ 281474976710656 ∧ acc.length + 1 ≤ 281474976710656 := by omega
      simp [h, hlt, hrow, k15, h1, k6, hkey, hok, hb, hw]
      rw [ih]
      simp
    · rw [hfe, if_neg h1]
      simp [h, hlt, hrow, k15, h1]
def rowD : Row := ([], 0)
def sortR (l : List Row) : List Row := if l.length < 2 then l else (idxSort (l.map keyed)).toList.map fun i => l.getD i rowD
theorem sortR_keyed (l : List Row) : sortG (l.map keyed) = (sortR l).map keyed := by
  unfold sortG sortR
  rw [List.length_map]
  split
  · rfl
  · rw [List.map_map]
    refine List.map_congr_left fun i hi => ?_
    have := List.mem_range.1 ((idxSort_perm (l.map keyed)).2.mem_iff.1 hi)
    rw [List.length_map] at this
    simp [List.getD, this]
theorem sortR_perm (l : List Row) : (sortR l).Perm l := by
  unfold sortR
  split
  · exact List.Perm.refl _
  · have := (idxSort_perm (l.map keyed)).2.map (fun i => l.getD i rowD)
    rw [List.length_map, map_getD_range] at this
    exact this
theorem sortR_sorted (l : List Row) : ∀ (i j : Nat) (a b : Row), i < j → (sortR l)[i]? = some a → (sortR l)[j]? = some b → Op.bytesLess (keyF b.1) (keyF a.1) = false := by
  intro i j a b hij ha hb
  exact sortG_sorted (l.map keyed) i j (keyed a) (keyed b) hij (by rw [sortR_keyed, List.getElem?_map, ha]; rfl) (by rw [sortR_keyed, List.getElem?_map, hb]; rfl)
theorem sort0 (l : List Row) (hl : l.length ≤ 256) : TT.lim 0 [.l (l.map keyed)] = some [.l ((sortR l).map keyed)] := by
  refine prim_lim (Ds := Ds) (k := 0) (f := sortP) rfl ?_
  have hall : (l.map keyed).all isKeyed = true := by
    rw [List.all_eq_true]; intro x hx; obtain ⟨r, _, rfl⟩ := List.mem_map.1 hx; rfl
  simp only [sortP]
  rw [if_pos ⟨by rw [List.length_map]; omega, hall⟩, sortR_keyed]
theorem clone23 (d : List Ent) (h : d.length ≤ 40) : TT.lim 23 [.l (d.map ent)] = some [.l (d.map ent)] := by
  refine prim_lim (Ds := Ds) (k := 23) (f := cloneP 32 2) rfl ?_
  have hall : (d.map ent).all (GV.elemOk 2) = true := by
    rw [List.all_eq_true]; intro x hx; obtain ⟨r, _, rfl⟩ := List.mem_map.1 hx; rfl
  simp only [cloneP]
  rw [if_pos ⟨by rw [List.length_map]; omega, hall⟩]
/-- Do two neighbours have one key? -/
def adjDup : List Row → Bool
  | a :: b :: l => decide (keyF a.1 = keyF b.1) || adjDup (b :: l)
  | _ => false
def adjFrom (l : List Row) (i : Nat) : Bool := if i = 0 then adjDup l else adjDup (l.drop (i - 1))
theorem adj_step {l : List Row} {i : Nat} (h0 : i ≠ 0) (hlt : i < l.length) : adjFrom l i = (decide (keyF (l[i - 1]'(by omega)).1 = keyF l[i].1) || adjFrom l (i + 1)) := by
  unfold adjFrom
  rw [if_neg h0, if_neg (by omega)]
  obtain ⟨j, rfl⟩ : ∃ j, i = j + 1 := ⟨i - 1, by omega⟩
  simp only [Nat.add_sub_cancel]
  rw [List.drop_eq_getElem_cons (show j < l.length by omega), List.drop_eq_getElem_cons hlt]
  rfl
theorem loop22 (s : List Row) (hf : ∀ r ∈ s, few12 r.1 = true) (h256 : s.length ≤ 256) : ∀ (m i : Nat), i + m = s.length →
    TT.lim 22 [.l ((s.take i).map row), .l (s.map keyed), .i .i64 s.length, .i .i64 i] = some (if adjFrom s i = true then [.i .i64 0] else [.i .i64 1, .l (s.map row)])
  | 0, i, hi => by
    have h0 : s.take i = s := List.take_of_length_le (by omega)
    have ha : adjFrom s i = false := by
      unfold adjFrom
      split
      · next h => subst h; have : s = [] := List.eq_nil_of_length_eq_zero (by omega); rw [this]; rfl
      · next h =>
        rw [List.drop_eq_getElem_cons (show i - 1 < s.length by omega), List.drop_eq_nil_of_le (by omega)]
        rfl
    rw [h0, ha]
    refine tree_lim rfl rfl ?_
    have h : ¬ ((i : Int) < s.length) := by omega
    simp [h]
  | m + 1, i, hi => by
    have hlt : i < s.length := by omega
    have ih : TT.lim 22 [.l ((s.take (i + 1)).map row), .l (s.map keyed), .i .i64 s.length, .i .i64 ((i : Int) + 1)] = _ := loop22 s hf h256 m (i + 1) (by omega)
    rw [List.take_succ_eq_append_getElem hlt, List.map_append] at ih
    simp only [List.map_cons, List.map_nil, List.map_take] at ih
    have hfi := hf _ (List.getElem_mem hlt)
    have hd40 : s[i].1.length ≤ 40 := by unfold few12 at hfi; rw [Bool.and_eq_true, decide_eq_true_iff] at hfi; exact hfi.2
    have kc := clone23 s[i].1 hd40
    have hrow : GV.g [.l (s[i].1.map ent), .i .u64 s[i].2] = row s[i] := rfl
    have hok : (row s[i]).elemOk 2 = true := rfl
    have hmin : min i s.length = i := by omega
    have hb : 2 * (i + 1) * 32 ≤ 281474976710656 ∧ i + 1 ≤ 281474976710656 := by omega
    refine tree_lim rfl rfl ?_
    have h : ((i : Int) < s.length) := by omega
    have hw := wrap64 (n := (i : Int) + 1) (by omega) (by omega)
    by_cases h0 : i = 0
    · subst h0
      have ha : adjFrom s 0 = adjFrom s 1 := by
        unfold adjFrom; simp
      rw [ha]
      simp only [Int.natCast_zero, Int.zero_add, List.take_zero, List.map_nil, List.nil_append] at hw ih
      have hn : (0 : Int) < (s.length : Int) := by omega
      simp [hn, hlt, kc, hrow, hok, hw]
      exact ih
    · have hi0 : 0 < i := by omega
      have hi1 : i - 1 < s.length := by omega
      have hw2 := wrap64 (n := (i : Int) - 1) (by omega) (by omega)
      have ht : ((i : Int) - 1).toNat = i - 1 := by omega
      have hnl : (1 : Int) ≤ (i : Int) := by omega
      have hlt2 : (i : Int) - 1 < (s.length : Int) := by omega
      rw [adj_step h0 hlt]
      by_cases h2 : keyF s[i].1 = keyF s[i - 1].1
      · have h3 : (keyF s[i - 1].1 = keyF s[i].1) = True := eq_true h2.symm
        have h2' : (keyF s[i].1 = keyF s[i - 1].1) = True := eq_true h2
        clear h2
        simp [h, hlt, hi0, hw2, ht, hnl, hlt2, hi1, h2', h3]
      · have h3 : ¬ keyF s[i - 1].1 = keyF s[i].1 := fun e => h2 e.symm
        simp [h, hlt, hi0, hw2, ht, hnl, hlt2, hi1, h2, h3, kc, hrow, hok, hmin, hb, hw, ih]
def ofR (l : List Row) : List Row × Int :=
  if 256 < l.length then ([], 13) else if firstErr l = 0 then (if adjDup (sortR l) = true then ([], 14) else (sortR l, 0)) else ([], firstErr l)
theorem of13 (l : List Row) (hl : Rows l) (hf : ∀ r ∈ l, few12 r.1 = true) : TT.lim 13 [.l (l.map row)] = some [.l ((ofR l).1.map row), .i .i64 (ofR l).2] := by
  refine fn_lim rfl rfl ?_ rfl
  unfold ofR
  by_cases h1 : 256 < l.length
  · have h1' : (256 : Int) < (l.length : Int) := by omega
    simp [h1, h1']
  have h1' : ¬ (256 : Int) < (l.length : Int) := by omega
  have k14 : TT.lim 14 [.l (l.map row), .i .i64 l.length, .i .i64 0, .l []] = _ := loop14 l hl hf (by omega) l.length 0 [] (by omega) rfl
  rw [List.drop_zero, List.nil_append] at k14
  by_cases h2 : firstErr l = 0
  · rw [if_pos h2] at k14
    have k0 := sort0 l (by omega)
    have hp := sortR_perm l
    have hsl : (sortR l).length = l.length := hp.length_eq
    have k22 : TT.lim 22 [.l [], .l ((sortR l).map keyed), .i .i64 (sortR l).length, .i .i64 0] = _ := loop22 (sortR l) (fun r hr => hf r (hp.mem_iff.1 hr)) (by omega) (sortR l).length 0 (by omega)
    have ha : adjFrom (sortR l) 0 = adjDup (sortR l) := rfl
    rw [ha] at k22
    have hc : (0 : Int) ≤ ((sortR l).length : Int) ∧ 32 * ((sortR l).length : Int) ≤ 281474976710656 ∧ ((sortR l).length : Int) ≤ 1152921504606846976 := by omega
    have hok : (GV.g [GV.l [], GV.i IntKind.u64 0]).elemOk 2 = true := rfl
    cases hd : adjDup (sortR l) with
    | true => rw [hd] at k22; simp only [if_true] at k22; simp [h1, h1', k14, h2, k0, hc, hok, k22]
    | false => rw [hd] at k22; simp only [Bool.false_eq_true, if_false] at k22; simp [h1, h1', k14, h2, k0, hc, hok, k22]
  · rw [if_neg h2] at k14
    simp [h1, h1', k14, h2]
abbrev K (r : Row) : List UInt8 := keyF r.1
/-- How many rows at the head have lesser keys. -/
def adv (k : List UInt8) : List Row → Nat
  | [] => 0
  | r :: rs => if Op.bytesLess (K r) k = true then adv k rs + 1 else 0
theorem drop_adv (k : List UInt8) : ∀ t : List Row, t.drop (adv k t) = t.dropWhile fun r => Op.bytesLess (K r) k
  | [] => rfl
  | r :: rs => by
    unfold adv
    cases h : Op.bytesLess (K r) k with
    | true => simp [h, drop_adv k rs]
    | false => simp [h]
theorem adv_le (k : List UInt8) : ∀ t : List Row, adv k t ≤ t.length
  | [] => by simp [adv]
  | r :: rs => by
    unfold adv
    have := adv_le k rs
    split <;> simp; omega
def out26 (t : List Row) (i : Nat) (k : GV) (b n j dd nn : GV) : List GV := match t[i]? with
  | some r => [.i .i64 0, .i .i64 i, row r, .l (r.1.map ent), .s (keyF r.1)]
  | none => [.i .i64 1, .i .i64 i]
theorem loop26 (t : List Row) (ht : t.length ≤ 256) (hf : ∀ r ∈ t, few12 r.1 = true) (k : List UInt8) (b n j dd nn : GV) : ∀ m i : Nat, i + m = t.length →
    TT.lim 72 [.l (t.map row), .i .i64 i, .s k, b, n, j, dd, nn] = some (out26 t (i + adv k (t.drop i)) (.s k) b n j dd nn)
  | 0, i, hi => by
    have h0 : t.drop i = [] := List.drop_eq_nil_of_le (by omega)
    have h1 : t[i]? = none := List.getElem?_eq_none (by omega)
    refine tree_lim rfl rfl ?_
    have h : ¬ ((i : Int) < t.length) := by omega
    simp [h, h0, adv, out26, h1]
  | m + 1, i, hi => by
    have hlt : i < t.length := by omega
    have ih : TT.lim 72 [.l (t.map row), .i .i64 ((i : Int) + 1), .s k, b, n, j, dd, nn] = _ := loop26 t ht hf k b n j dd nn m (i + 1) (by omega)
    have k6 := key6 t[i].1 (hf _ (List.getElem_mem hlt))
    have hd : adv k (t.drop i) = if Op.bytesLess (K t[i]) k = true then adv k (t.drop (i + 1)) + 1 else 0 := by rw [List.drop_eq_getElem_cons hlt]; rfl
    refine tree_lim rfl rfl ?_
    have h : ((i : Int) < t.length) := by omega
    have hw := wrap64 (n := (i : Int) + 1) (by omega) (by omega)
    rw [hd]
    cases hb : Op.bytesLess (K t[i]) k with
    | true =>
      have hb' : Op.bytesLess (keyF t[i].1) k = true := hb
      rw [if_pos rfl, show i + (adv k (t.drop (i + 1)) + 1) = i + 1 + adv k (t.drop (i + 1)) by omega]
      simp [h, hlt, k6, hb', hw, ih]
    | false =>
      have hb' : Op.bytesLess (keyF t[i].1) k = false := hb
      have h1 : t[i]? = some t[i] := List.getElem?_eq_getElem hlt
      rw [if_neg (by simp), Nat.add_zero]
      simp [h, hlt, k6, hb', out26]
def atL : List Row → List Row → Bool
  | _, [] => true
  | t, r :: rs => match t.drop (adv (K r) t) with
    | [] => false
    | s :: t' => decide (K s = K r) && decide (r.2 ≤ s.2) && atL (s :: t') rs
theorem loop25 (t b : List Row) (ht : t.length ≤ 256) (hb : b.length ≤ 256) (hf : ∀ r ∈ t, few12 r.1 = true) (hg : ∀ r ∈ b, few12 r.1 = true) : ∀ m j i : Nat, j + m = b.length → i ≤ t.length →
    TT.lim 71 [.l (t.map row), .i .i64 i, .l (b.map row), .i .i64 b.length, .i .i64 j] = some (if atL (t.drop i) (b.drop j) = true then [.i .i64 1] else [.i .i64 0])
  | 0, j, i, hj, hi => by
    have h0 : b.drop j = [] := List.drop_eq_nil_of_le (by omega)
    refine tree_lim rfl rfl ?_
    have h : ¬ ((j : Int) < b.length) := by omega
    simp [h, h0, atL]
  | m + 1, j, i, hj, hi => by
    have hlt : j < b.length := by omega
    have k6 := key6 b[j].1 (hg _ (List.getElem_mem hlt))
    have h26 := loop26 t ht hf (keyF b[j].1) (.l (b.map row)) (.i .i64 b.length) (.i .i64 j) (.l (b[j].1.map ent)) (.i .u64 b[j].2) (t.length - i) i (by omega)
    have hal := adv_le (keyF b[j].1) (t.drop i)
    rw [List.length_drop] at hal
    have hdr : b.drop j = b[j] :: b.drop (j + 1) := List.drop_eq_getElem_cons hlt
    have hat : atL (t.drop i) (b.drop j) = match t.drop (i + adv (keyF b[j].1) (t.drop i)) with
      | [] => false
      | s :: t' => decide (K s = K b[j]) && decide (b[j].2 ≤ s.2) && atL (s :: t') (b.drop (j + 1)) := by
      rw [hdr]; simp only [atL, List.drop_drop]
    rw [hat]
    generalize hi' : i + adv (keyF b[j].1) (t.drop i) = i' at h26 ⊢
    have hi2 : i' ≤ t.length := by omega
    refine tree_lim rfl rfl ?_
    have h : ((j : Int) < b.length) := by omega
    have hw := wrap64 (n := (j : Int) + 1) (by omega) (by omega)
    by_cases hlt2 : i' < t.length
    · have hne : ¬ ((i' : Int) = (t.length : Int)) := by omega
      have h1 : t[i']? = some t[i'] := List.getElem?_eq_getElem hlt2
      have hd2 : t.drop i' = t[i'] :: t.drop (i' + 1) := List.drop_eq_getElem_cons hlt2
      have k7 := key6 t[i'].1 (hf _ (List.getElem_mem hlt2))
      have ih : TT.lim 71 [.l (t.map row), .i .i64 i', .l (b.map row), .i .i64 b.length, .i .i64 ((j : Int) + 1)] = _ := loop25 t b ht hb hf hg m (j + 1) i' (by omega) hi2
      simp only [out26, h1] at h26
      rw [hd2]
      rw [hd2] at ih
      by_cases h2 : keyF t[i'].1 = keyF b[j].1
      · have h2' : (keyF t[i'].1 = keyF b[j].1) = True := eq_true h2
        clear h2
        by_cases h3 : t[i'].2 < b[j].2
        · have h3' : ¬ b[j].2 ≤ t[i'].2 := by omega
          simp [h, hlt, k6, h26, hne, hlt2, k7, h2', h3, h3']
        · have h3' : b[j].2 ≤ t[i'].2 := by omega
          simp [h, hlt, k6, h26, hne, hlt2, k7, h2', h3, h3', hw, ih]
      · simp [h, hlt, k6, h26, hne, hlt2, k7, h2]
    · have he : (i' : Int) = (t.length : Int) := by omega
      have h1 : t[i']? = none := List.getElem?_eq_none (by omega)
      have hd2 : t.drop i' = [] := List.drop_eq_nil_of_le (by omega)
      simp only [out26, h1] at h26
      rw [hd2]
      simp [h, hlt, k6, h26, he]
theorem atLeast24 (t b : List Row) (ht : t.length ≤ 256) (hb : b.length ≤ 256) (hf : ∀ r ∈ t, few12 r.1 = true) (hg : ∀ r ∈ b, few12 r.1 = true) : TT.lim 70 [.l (t.map row), .l (b.map row)] = some [.b (atL t b)] := by
  have h25 : TT.lim 71 [.l (t.map row), .i .i64 0, .l (b.map row), .i .i64 b.length, .i .i64 0] = _ := loop25 t b ht hb hf hg b.length 0 0 (by omega) (by omega)
  rw [List.drop_zero, List.drop_zero] at h25
  refine fn_lim rfl rfl ?_ rfl
  cases ha : atL t b <;> rw [ha] at h25 <;> simp at h25 <;> simp [h25]
theorem eqGs_ent (x y : Ent) : eqGs [1, 1] [.s x.1, .s x.2] [.s y.1, .s y.2] = some (decide (x = y)) := by
  simp only [eqGs, Option.map_some, Bool.and_true]
  congr 1
  rw [Bool.eq_iff_iff]
  simp [Prod.ext_iff]
theorem loop32 (d e : List Ent) (hl : d.length = e.length) (hb : d.length ≤ 140737488351232) : ∀ m i : Nat, i + m = d.length →
    TT.lim 63 [.l (d.map ent), .l (e.map ent), .i .i64 d.length, .i .i64 i] = some (if d.drop i = e.drop i then [.i .i64 1] else [.i .i64 0])
  | 0, i, hi => by
    have h0 : d.drop i = [] := List.drop_eq_nil_of_le (by omega)
    have h1 : e.drop i = [] := List.drop_eq_nil_of_le (by omega)
    refine tree_lim rfl rfl ?_
    have h : ¬ ((i : Int) < d.length) := by omega
    simp [h, h0, h1]
  | m + 1, i, hi => by
    have hlt : i < d.length := by omega
    have hlt2 : i < e.length := by omega
    have ih : TT.lim 63 [.l (d.map ent), .l (e.map ent), .i .i64 d.length, .i .i64 ((i : Int) + 1)] = _ := loop32 d e hl hb m (i + 1) (by omega)
    have hd : (d.drop i = e.drop i) ↔ (d[i] = e[i] ∧ d.drop (i + 1) = e.drop (i + 1)) := by
      rw [List.drop_eq_getElem_cons hlt, List.drop_eq_getElem_cons hlt2, List.cons.injEq]
    have hq := eqGs_ent d[i] e[i]
    refine tree_lim rfl rfl ?_
    have h : ((i : Int) < d.length) := by omega
    have hw := wrap64 (n := (i : Int) + 1) (by omega) (by omega)
    by_cases h1 : d[i] = e[i]
    · have h2 : (d.drop i = e.drop i) ↔ (d.drop (i + 1) = e.drop (i + 1)) := by rw [hd]; simp [h1]
      have hq' : eqGs [1, 1] [.s d[i].1, .s d[i].2] [.s e[i].1, .s e[i].2] = some true := by rw [hq]; simp [h1]
      simp only [h2]
      simp [h, hlt, hlt2, hq', hw, ih]
    · have h2 : ¬ (d.drop i = e.drop i) := by rw [hd]; simp [h1]
      have hq' : eqGs [1, 1] [.s d[i].1, .s d[i].2] [.s e[i].1, .s e[i].2] = some false := by rw [hq]; simp [h1]
      rw [if_neg h2]
      simp [h, hlt, hlt2, hq']
theorem equal31 (d e : List Ent) (hb : d.length ≤ 140737488351232) (hb2 : e.length ≤ 140737488351232) : TT.lim 62 [.l (d.map ent), .l (e.map ent)] = some [.b (decide (d = e))] := by
  refine fn_lim rfl rfl ?_ rfl
  by_cases hl : d.length = e.length
  · have hl' : (d.length : Int) = (e.length : Int) := by omega
    have h32 : TT.lim 63 [.l (d.map ent), .l (e.map ent), .i .i64 d.length, .i .i64 0] = _ := loop32 d e hl hb d.length 0 (by omega)
    rw [List.drop_zero, List.drop_zero] at h32
    by_cases h : d = e
    · rw [if_pos h] at h32
      have h' : (d = e) = True := eq_true h
      clear h
      rw [hl'] at h32
      simp [hl', h32, h']
    · rw [if_neg h] at h32
      rw [hl'] at h32
      simp [hl', h32, h]
  · have hl' : ¬ (d.length : Int) = (e.length : Int) := by omega
    have h : ¬ d = e := fun h => hl (by rw [h])
    simp [hl', hl, h]
theorem rowEq30 (r s : Row) (hb : r.1.length ≤ 140737488351232) (hb2 : s.1.length ≤ 140737488351232) : TT.lim 61 [row r, row s] = some [.b (decide (r = s))] := by
  have k := equal31 r.1 s.1 hb hb2
  refine fn_lim rfl rfl ?_ rfl
  by_cases h : r.2 = s.2
  · have : decide (r = s) = decide (r.1 = s.1) := by rw [Bool.eq_iff_iff]; simp [Prod.ext_iff, h]
    rw [this]
    simp [h, k]
  · have : decide (r = s) = false := by rw [decide_eq_false_iff_not]; intro e; exact h (by rw [e])
    rw [this]
    simp [h]
theorem loop29 (a b : List Row) (hl : a.length = b.length) (hb : a.length ≤ 140737488351232) (h1 : ∀ r ∈ a, r.1.length ≤ 140737488351232) (h2 : ∀ r ∈ b, r.1.length ≤ 140737488351232) : ∀ m i : Nat, i + m = a.length →
    TT.lim 60 [.l (b.map row), .l (a.map row), .i .i64 a.length, .i .i64 i] = some (if a.drop i = b.drop i then [.i .i64 1] else [.i .i64 0])
  | 0, i, hi => by
    have h0 : a.drop i = [] := List.drop_eq_nil_of_le (by omega)
    have h1 : b.drop i = [] := List.drop_eq_nil_of_le (by omega)
    refine tree_lim rfl rfl ?_
    have h : ¬ ((i : Int) < a.length) := by omega
    simp [h, h0, h1]
  | m + 1, i, hi => by
    have hlt : i < a.length := by omega
    have hlt2 : i < b.length := by omega
    have ih : TT.lim 60 [.l (b.map row), .l (a.map row), .i .i64 a.length, .i .i64 ((i : Int) + 1)] = _ := loop29 a b hl hb h1 h2 m (i + 1) (by omega)
    have hd : (a.drop i = b.drop i) ↔ (a[i] = b[i] ∧ a.drop (i + 1) = b.drop (i + 1)) := by
      rw [List.drop_eq_getElem_cons hlt, List.drop_eq_getElem_cons hlt2, List.cons.injEq]
    have k := rowEq30 a[i] b[i] (h1 _ (List.getElem_mem hlt)) (h2 _ (List.getElem_mem hlt2))
    have r1 : GV.g [.l (a[i].1.map ent), .i .u64 a[i].2] = row a[i] := rfl
    have r2 : GV.g [.l (b[i].1.map ent), .i .u64 b[i].2] = row b[i] := rfl
    refine tree_lim rfl rfl ?_
    have h : ((i : Int) < a.length) := by omega
    have hw := wrap64 (n := (i : Int) + 1) (by omega) (by omega)
    by_cases h3 : a[i] = b[i]
    · have h4 : (a.drop i = b.drop i) ↔ (a.drop (i + 1) = b.drop (i + 1)) := by rw [hd]; simp [h3]
      simp only [h4]
      have k' : TT.lim 61 [row a[i], row b[i]] = some [.b true] := by rw [k]; simp [h3]
      simp [h, hlt, hlt2, r1, r2, k', hw, ih]
    · have h4 : ¬ (a.drop i = b.drop i) := by rw [hd]; simp [h3]
      rw [if_neg h4]
      have k' : TT.lim 61 [row a[i], row b[i]] = some [.b false] := by rw [k]; simp [h3]
      simp [h, hlt, hlt2, r1, r2, k']
theorem same27 (a b : List Row) (hb : a.length ≤ 140737488351232) (hb2 : b.length ≤ 140737488351232) (h1 : ∀ r ∈ a, r.1.length ≤ 140737488351232) (h2 : ∀ r ∈ b, r.1.length ≤ 140737488351232) : TT.lim 58 [.l (a.map row), .l (b.map row)] = some [.b (decide (a = b))] := by
  have h28 : TT.lim 59 [.l (a.map row), .l (b.map row)] = some [.b (decide (a = b))] := by
    refine fn_lim rfl rfl ?_ rfl
    by_cases hl : a.length = b.length
    · have hl' : (a.length : Int) = (b.length : Int) := by omega
      have h29 : TT.lim 60 [.l (b.map row), .l (a.map row), .i .i64 a.length, .i .i64 0] = _ := loop29 a b hl hb h1 h2 a.length 0 (by omega)
      rw [List.drop_zero, List.drop_zero] at h29
      rw [hl'] at h29
      by_cases h : a = b
      · rw [if_pos h] at h29
        have h' : (a = b) = True := eq_true h
        clear h
        simp [hl', h29, h']
      · rw [if_neg h] at h29
        simp [hl', h29, h]
    · have hl' : ¬ (a.length : Int) = (b.length : Int) := by omega
      have h : ¬ a = b := fun h => hl (by rw [h])
      simp [hl', hl, h]
  refine fn_lim rfl rfl ?_ rfl
  simp [h28]
theorem bl_iff (a b : List UInt8) : Op.bytesLess a b = true ↔ a < b := by rw [bytesLess_lt]; simp
theorem bl_not (a b : List UInt8) : Op.bytesLess a b = false ↔ ¬ a < b := by rw [bytesLess_lt]; simp
/-- Rows whose keys rise. -/
def Rise (l : List Row) : Prop := l.Pairwise fun a b => K a < K b
theorem rise_of : ∀ {l : List Row}, (∀ (i j : Nat) (a b : Row), i < j → l[i]? = some a → l[j]? = some b → Op.bytesLess (keyF b.1) (keyF a.1) = false) → adjDup l = false → Rise l
  | [], _, _ => List.Pairwise.nil
  | [a], _, _ => List.pairwise_singleton _ _
  | a :: b :: l, h, hd => by
    simp only [adjDup, Bool.or_eq_false_iff, decide_eq_false_iff_not] at hd
    have ih : Rise (b :: l) := rise_of (fun i j x y hij hx hy => h (i + 1) (j + 1) x y (by omega) (by simpa using hx) (by simpa using hy)) hd.2
    have hab : K a < K b := by
      have h1 := h 0 1 a b (by omega) rfl rfl
      rw [bl_not] at h1
      have h2 := List.not_lt.1 h1
      rcases List.le_iff_lt_or_eq.1 h2 with h3 | h3
      · exact h3
      · exact absurd h3 hd.1
    refine List.Pairwise.cons (fun x hx => ?_) ih
    rcases List.mem_cons.1 hx with rfl | hx
    · exact hab
    · exact List.lt_trans hab ((List.pairwise_cons.1 ih).1 x hx)
theorem ofR_rise {l : List Row} (h : (ofR l).2 = 0) : Rise (ofR l).1 ∧ (ofR l).1.Perm l ∧ l.length ≤ 256 := by
  unfold ofR at h ⊢
  split at h
  · cases h
  next h1 =>
  rw [if_neg h1]
  split at h
  · next h2 =>
    rw [if_pos h2]
    split at h
    · cases h
    · next h3 =>
      rw [if_neg h3]
      rw [Bool.not_eq_true] at h3
      exact ⟨rise_of (sortR_sorted l) h3, sortR_perm l, by omega⟩
  · next h2 => exact absurd h h2
theorem atL_iff : ∀ (b t : List Row), Rise t → Rise b → (atL t b = true ↔ ∀ r ∈ b, ∃ s ∈ t, K s = K r ∧ r.2 ≤ s.2)
  | [], t, _, _ => by simp [atL]
  | r :: rs, t, ht, hb => by
    have hrs := List.pairwise_cons.1 hb
    have hdw := drop_adv (K r) t
    have htd : Rise (t.drop (adv (K r) t)) := ht.sublist (List.drop_sublist _ _)
    have hsub : ∀ s ∈ t.drop (adv (K r) t), s ∈ t := fun s hs => (List.drop_sublist _ _).subset hs
    -- what is not dropped
    have hkeep : ∀ (u : List Row), (∀ s ∈ u, s ∈ t.dropWhile (fun x => Op.bytesLess (K x) (K r)) ∨ K s < K r) → True := fun _ _ => trivial
    have hin : ∀ s ∈ t, ¬ K s < K r → s ∈ t.drop (adv (K r) t) := by
      intro s hs hn
      rw [hdw]
      clear hkeep hsub htd hdw ht
      induction t with
      | nil => simp at hs
      | cons a t ih =>
        rw [List.dropWhile_cons]
        split
        · next ha =>
          rcases List.mem_cons.1 hs with rfl | hs
          · exact absurd ((bl_iff _ _).1 ha) hn
          · exact ih hs
        · exact hs
    have hhead : ∀ s t', t.drop (adv (K r) t) = s :: t' → ¬ K s < K r := by
      intro s t' e
      rw [hdw] at e
      have := List.head?_dropWhile_not (fun x => Op.bytesLess (K x) (K r)) t
      rw [e] at this
      simp only [List.head?_cons, Option.all_some, Bool.not_eq_true'] at this
      intro hlt
      rw [(bl_iff _ _).2 hlt] at this
      cases this
    unfold atL
    cases e : t.drop (adv (K r) t) with
    | nil =>
      simp only [Bool.false_eq_true, false_iff]
      intro h
      obtain ⟨s, hs, hk, _⟩ := h r (by simp)
      have := hin s hs (by rw [hk]; exact List.lt_irrefl _)
      rw [e] at this; simp at this
    | cons s t' =>
      simp only [Bool.and_eq_true, decide_eq_true_iff]
      rw [e] at htd hsub hin
      rw [atL_iff rs (s :: t') htd hrs.2]
      have hst := List.pairwise_cons.1 htd
      constructor
      · rintro ⟨⟨h1, h2⟩, h3⟩ x hx
        rcases List.mem_cons.1 hx with rfl | hx
        · exact ⟨s, hsub s (by simp), h1, h2⟩
        · obtain ⟨y, hy, h4⟩ := h3 x hx
          exact ⟨y, hsub y hy, h4⟩
      · intro h
        obtain ⟨y, hy, hk, hn⟩ := h r (by simp)
        have hy2 := hin y hy (by rw [hk]; exact List.lt_irrefl _)
        have hys : y = s := by
          rcases List.mem_cons.1 hy2 with rfl | hy2
          · rfl
          · have := hst.1 y hy2
            rw [hk] at this
            exact absurd this (hhead s t' e)
        subst hys
        refine ⟨⟨hk, hn⟩, fun x hx => ?_⟩
        obtain ⟨z, hz, h4, h5⟩ := h x (by simp [hx])
        refine ⟨z, hin z hz ?_, h4, h5⟩
        rw [h4]
        exact fun hlt => List.lt_irrefl _ (List.lt_trans hlt (hrs.1 x hx))
theorem rise_eq : ∀ {a b : List Row}, Rise a → Rise b → (∀ r ∈ a, r ∈ b) → (∀ r ∈ b, r ∈ a) → a = b
  | [], [], _, _, _, _ => rfl
  | [], b :: _, _, _, _, h => absurd (h b (by simp)) (by simp)
  | a :: _, [], _, _, h, _ => absurd (h a (by simp)) (by simp)
  | x :: a, y :: b, ha, hb, h1, h2 => by
    have ha' := List.pairwise_cons.1 ha
    have hb' := List.pairwise_cons.1 hb
    have hxy : x = y := by
      rcases List.mem_cons.1 (h1 x (by simp)) with e | hx
      · exact e
      · rcases List.mem_cons.1 (h2 y (by simp)) with e | hy
        · exact e.symm
        · exact absurd (List.lt_trans (hb'.1 x hx) (ha'.1 y hy)) (List.lt_irrefl _)
    subst hxy
    rw [rise_eq ha'.2 hb'.2 (fun r hr => ?_) (fun r hr => ?_)]
    · rcases List.mem_cons.1 (h1 r (by simp [hr])) with e | h
      · subst e; exact absurd (ha'.1 _ hr) (List.lt_irrefl _)
      · exact h
    · rcases List.mem_cons.1 (h2 r (by simp [hr])) with e | h
      · subst e; exact absurd (hb'.1 _ hr) (List.lt_irrefl _)
      · exact h
theorem few_of {l : List Row} (hl : Rows l) (h : few13 l = true) : ∀ r ∈ (ofR l).1, few12 r.1 = true ∧ r.1.length ≤ 140737488351232 := by
  intro r hr
  have hm : r ∈ l := by
    unfold ofR at hr
    split at hr
    · simp at hr
    split at hr
    · split at hr
      · simp at hr
      · exact (sortR_perm l).mem_iff.1 hr
    · simp at hr
  exact ⟨few13_few h r hm, (hl.2 r hm).1.1⟩
theorem ents_of {cs : List GV} {r0 : List GV} (h : GTy.hasL [.list true [.str, .str], .int .u64] cs) : ∃ r : Row, (Ents r.1 ∧ 0 ≤ r.2 ∧ r.2 < 18446744073709551616) ∧ GV.g cs = row r := by
  obtain ⟨g, l, rfl, h1, h⟩ := hasL_cons h
  obtain ⟨n, l, rfl, h2, h⟩ := hasL_cons h
  obtain rfl := hasL_nil h
  obtain ⟨n, rfl, n1, n2⟩ := has_u64 h2
  obtain ⟨xs, rfl, h3, h4⟩ := has_list h1
  obtain ⟨d, hd, rfl⟩ : ∃ d : List Ent, (∀ x ∈ d, x.1.length ≤ 140737488351232 ∧ x.2.length ≤ 140737488351232) ∧ xs = d.map ent := list_map fun x hx => by
    obtain ⟨k1, k2⟩ := h4 x hx
    cases x <;> simp [GV.scalar] at k2
    obtain ⟨a, l, e1, a1, k1⟩ := hasL_cons k1
    obtain ⟨b, l, rfl, b1, k1⟩ := hasL_cons k1
    obtain rfl := hasL_nil k1
    obtain ⟨s, rfl, s1⟩ := has_str a1
    obtain ⟨u, rfl, u1⟩ := has_str b1
    simp only [cells_g] at e1
    subst e1
    exact ⟨(s, u), ⟨Nat.le_trans s1 (by decide), Nat.le_trans u1 (by decide)⟩, rfl⟩
  exact ⟨(d, n), ⟨⟨by have := Nat.le_trans h3 (by decide : reachBytes ≤ 140737488351232); simpa using this, hd⟩, n1, n2⟩, rfl⟩
theorem rows_of {g : GV} (h : (GTy.list true [.list true [.str, .str], .int .u64]).has g) : ∃ l : List Row, Rows l ∧ g = .l (l.map row) := by
  obtain ⟨xs, rfl, h1, h2⟩ := has_list h
  obtain ⟨l, hl, rfl⟩ : ∃ l : List Row, (∀ r ∈ l, Ents r.1 ∧ 0 ≤ r.2 ∧ r.2 < 18446744073709551616) ∧ xs = l.map row := list_map fun x hx => by
    obtain ⟨k1, k2⟩ := h2 x hx
    cases x <;> simp [GV.scalar] at k2
    obtain ⟨r, hr, e⟩ := ents_of (r0 := []) k1
    exact ⟨r, hr, e⟩
  exact ⟨l, ⟨by have := Nat.le_trans h1 (by decide : reachBytes ≤ 140737488351232); simpa using this, hl⟩, rfl⟩
def getR : List Row → List Ent → Option Int
  | [], _ => none
  | r :: rs, d => if r.1 = d then some r.2 else getR rs d
def outGet : Option Int → List GV
  | some n => [.i .i64 0, .i .u64 n]
  | none => [.i .i64 1]
theorem loop36 (t : List Row) (d : List Ent) (ht : t.length ≤ 140737488351232) (hd : d.length ≤ 140737488351232) (hf : ∀ r ∈ t, r.1.length ≤ 140737488351232) : ∀ m i : Nat, i + m = t.length →
    TT.lim 67 [.l (d.map ent), .l (t.map row), .i .i64 t.length, .i .i64 i] = some (outGet (getR (t.drop i) d))
  | 0, i, hi => by
    have h0 : t.drop i = [] := List.drop_eq_nil_of_le (by omega)
    refine tree_lim rfl rfl ?_
    have h : ¬ ((i : Int) < t.length) := by omega
    simp [h, h0, getR, outGet]
  | m + 1, i, hi => by
    have hlt : i < t.length := by omega
    have ih : TT.lim 67 [.l (d.map ent), .l (t.map row), .i .i64 t.length, .i .i64 ((i : Int) + 1)] = _ := loop36 t d ht hd hf m (i + 1) (by omega)
    have k := equal31 t[i].1 d (hf _ (List.getElem_mem hlt)) hd
    have hg : getR (t.drop i) d = if t[i].1 = d then some t[i].2 else getR (t.drop (i + 1)) d := by rw [List.drop_eq_getElem_cons hlt]; rfl
    rw [hg]
    refine tree_lim rfl rfl ?_
    have h : ((i : Int) < t.length) := by omega
    have hw := wrap64 (n := (i : Int) + 1) (by omega) (by omega)
    by_cases h1 : t[i].1 = d
    · rw [if_pos h1]
      have k' : TT.lim 62 [.l (t[i].1.map ent), .l (d.map ent)] = some [.b true] := by rw [k]; simp [h1]
      simp [h, hlt, k', outGet]
    · rw [if_neg h1]
      have k' : TT.lim 62 [.l (t[i].1.map ent), .l (d.map ent)] = some [.b false] := by rw [k]; simp [h1]
      simp [h, hlt, k', hw, ih]
theorem get35 (t : List Row) (d : List Ent) (ht : t.length ≤ 140737488351232) (hd : d.length ≤ 140737488351232) (hf : ∀ r ∈ t, r.1.length ≤ 140737488351232) : TT.lim 66 [.l (t.map row), .l (d.map ent)] = some [.i .u64 ((getR t d).getD 0)] := by
  have h36 : TT.lim 67 [.l (d.map ent), .l (t.map row), .i .i64 t.length, .i .i64 0] = _ := loop36 t d ht hd hf t.length 0 (by omega)
  rw [List.drop_zero] at h36
  refine fn_lim rfl rfl ?_ rfl
  cases hg : getR t d <;> rw [hg] at h36 <;> simp [h36, outGet]
def chkR : Option (List UInt8) → List Row → Int
  | _, [] => 0
  | p, r :: rs => if rowChk r ≠ 0 then rowChk r else match p with
    | none => chkR (some (K r)) rs
    | some k => if K r = k then 14 else if Op.bytesLess (K r) k = true then 7 else chkR (some (K r)) rs
theorem loop38 (t : List Row) (ht : Rows t) (hf : ∀ r ∈ t, few12 r.1 = true) : ∀ (m i : Nat) (p : List UInt8), i + m = t.length →
    TT.lim 55 [.s p, .l (t.map row), .i .i64 t.length, .i .i64 i] = some (tagged (chkR (if i = 0 then none else some p) (t.drop i)))
  | 0, i, p, hi => by
    have h0 : t.drop i = [] := List.drop_eq_nil_of_le (by omega)
    refine tree_lim rfl rfl ?_
    have h : ¬ ((i : Int) < t.length) := by omega
    simp [h, h0, chkR, tagged]
  | m + 1, i, p, hi => by
    have hlt : i < t.length := by omega
    have hr := ht.2 t[i] (List.getElem_mem hlt)
    have k15 := check15 t[i] hr.1
    have k6 := key6 t[i].1 (hf _ (List.getElem_mem hlt))
    have hrow : GV.g [.l (t[i].1.map ent), .i .u64 t[i].2] = row t[i] := rfl
    have ih : TT.lim 55 [.s (keyF t[i].1), .l (t.map row), .i .i64 t.length, .i .i64 ((i : Int) + 1)] = _ := loop38 t ht hf m (i + 1) (keyF t[i].1) (by omega)
    rw [if_neg (by omega)] at ih
    rw [List.drop_eq_getElem_cons hlt]
    refine tree_lim rfl rfl ?_
    have h : ((i : Int) < t.length) := by omega
    have hw := wrap64 (n := (i : Int) + 1) (by omega) (by have := ht.1; omega)
    by_cases h1 : rowChk t[i] = 0
    rotate_left
    · simp [-List.getElem_cons_drop, h, hlt, hrow, k15, h1, chkR, tagged]
    by_cases h0 : i = 0
    · subst h0
      simp only [Int.natCast_zero, Int.zero_add] at hw ih
      simp [-List.getElem_cons_drop, h, hlt, hrow, k15, h1, k6, hw, chkR]
      have hn : (0 : Int) < (t.length : Int) := by omega
      simpa using ih
    · have hi0 : 0 < i := by omega
      by_cases h2 : keyF t[i].1 = p
      · have h2' : (keyF t[i].1 = p) = True := eq_true h2
        clear h2
        simp [-List.getElem_cons_drop, h, hlt, hrow, k15, h1, k6, hi0, h0, h2', chkR, tagged]
      · cases h3 : Op.bytesLess (keyF t[i].1) p with
        | true => simp [-List.getElem_cons_drop, h, hlt, hrow, k15, h1, k6, hi0, h0, h2, h3, chkR, tagged]
        | false => simp [-List.getElem_cons_drop, h, hlt, hrow, k15, h1, k6, hi0, h0, h2, h3, hw, ih, chkR]
def checkT (t : List Row) : Int := if 256 < t.length then 13 else chkR none t
theorem check37 (t : List Row) (ht : Rows t) (hf : ∀ r ∈ t, few12 r.1 = true) : TT.lim 54 [.l (t.map row)] = some [.i .i64 (checkT t)] := by
  have h38 : TT.lim 55 [.s [], .l (t.map row), .i .i64 t.length, .i .i64 0] = _ := loop38 t ht hf t.length 0 [] (by omega)
  rw [if_pos rfl, List.drop_zero] at h38
  refine fn_lim rfl rfl ?_ rfl
  unfold checkT
  by_cases h1 : 256 < t.length
  · have h1' : (256 : Int) < (t.length : Int) := by omega
    simp [h1, h1']
  · have h1' : ¬ (256 : Int) < (t.length : Int) := by omega
    by_cases h2 : chkR none t = 0
    · simp only [tagged, h2, if_true] at h38
      simp [h1, h1', h38, h2]
    · simp only [tagged, h2, if_false] at h38
      simp [h1, h1', h38, h2]
theorem firstErr_iff : ∀ l : List Row, firstErr l = 0 ↔ ∀ r ∈ l, rowChk r = 0
  | [] => by simp [firstErr]
  | r :: l => by
    unfold firstErr
    by_cases h : rowChk r = 0
    · rw [if_pos h, firstErr_iff l]; simp [h]
    · rw [if_neg h]; simp [h]
theorem adj_nodup : ∀ {l : List Row}, (l.map K).Nodup → adjDup l = false
  | [], _ => rfl
  | [_], _ => rfl
  | a :: b :: l, h => by
    simp only [List.map_cons, List.nodup_cons, List.mem_cons, not_or] at h
    simp only [adjDup, Bool.or_eq_false_iff, decide_eq_false_iff_not]
    exact ⟨h.1.1, adj_nodup (l := b :: l) (by simp only [List.map_cons, List.nodup_cons]; exact h.2)⟩
theorem rise_nodup {l : List Row} (h : Rise l) : (l.map K).Nodup := by
  unfold List.Nodup
  rw [List.pairwise_map]
  refine h.imp fun {a b} hab e => ?_
  rw [e] at hab
  exact List.lt_irrefl _ hab
theorem adj_iff (l : List Row) : adjDup (sortR l) = false ↔ (l.map K).Nodup := by
  constructor
  · intro h
    exact ((sortR_perm l).map K).nodup_iff.1 (rise_nodup (rise_of (sortR_sorted l) h))
  · intro h
    exact adj_nodup (((sortR_perm l).map K).nodup_iff.2 h)
theorem ofR_ok (l : List Row) : (ofR l).2 = 0 ↔ (l.length ≤ 256 ∧ (∀ r ∈ l, rowChk r = 0) ∧ (l.map K).Nodup) := by
  rw [← firstErr_iff, ← adj_iff]
  unfold ofR
  by_cases h1 : 256 < l.length
  · rw [if_pos h1]; simp; omega
  rw [if_neg h1]
  by_cases h2 : firstErr l = 0
  · rw [if_pos h2]
    cases h3 : adjDup (sortR l) with
    | true => simp
    | false => simp [h2]; omega
  · rw [if_neg h2]; simp [h2]
def val : List Row → List UInt8 → Int
  | [], _ => 0
  | r :: rs, k => if K r = k then r.2 else val rs k
def Pos (t : List Row) : Prop := ∀ r ∈ t, 0 < r.2 ∧ r.2 < 18446744073709551616
theorem val_mem : ∀ {t : List Row}, Rise t → ∀ r ∈ t, val t (K r) = r.2
  | [], _, r, h => by simp at h
  | x :: t, ht, r, h => by
    have ht' := List.pairwise_cons.1 ht
    unfold val
    rcases List.mem_cons.1 h with rfl | h
    · rw [if_pos rfl]
    · rw [if_neg fun e => by have := ht'.1 r h; rw [e] at this; exact List.lt_irrefl _ this]
      exact val_mem ht'.2 r h
theorem val_cases : ∀ (t : List Row) (k : List UInt8), (∃ r ∈ t, K r = k ∧ val t k = r.2) ∨ ((∀ r ∈ t, K r ≠ k) ∧ val t k = 0)
  | [], k => .inr ⟨by simp, rfl⟩
  | x :: t, k => by
    unfold val
    by_cases h : K x = k
    · exact .inl ⟨x, by simp, h, by rw [if_pos h]⟩
    · rw [if_neg h]
      rcases val_cases t k with ⟨r, h1, h2, h3⟩ | ⟨h1, h2⟩
      · exact .inl ⟨r, by simp [h1], h2, h3⟩
      · refine .inr ⟨fun r hr => ?_, h2⟩
        rcases List.mem_cons.1 hr with rfl | hr
        · exact h
        · exact h1 r hr
theorem val_pos {t : List Row} (hp : Pos t) {k : List UInt8} (h : 0 < val t k) : ∃ r ∈ t, K r = k ∧ val t k = r.2 := by
  rcases val_cases t k with h1 | ⟨h1, h2⟩
  · exact h1
  · omega
theorem few40 {d : List Ent} (h : few12 d = true) : d.length ≤ 40 := by
  unfold few12 at h; simp at h; omega
def Few (t : List Row) : Prop := ∀ r ∈ t, few12 r.1 = true
def Ok (t : List Row) : Prop := t.length ≤ 256 ∧ Rise t ∧ ∀ r ∈ t, rowChk r = 0
theorem rowChk_iff (r : Row) : rowChk r = 0 ↔ descrChk r.1 = 0 ∧ r.2 ≠ 0 := by
  unfold rowChk
  by_cases h : descrChk r.1 = 0
  · simp [h]
  · simp [h]
structure Tb (t : List Row) : Prop where
  ok : Ok t
  rows : Rows t
  few : Few t
theorem Tb.pos {t : List Row} (h : Tb t) : Pos t := fun r hr => by
  have h1 := ((rowChk_iff r).1 (h.ok.2.2 r hr)).2
  have h2 := (h.rows.2 r hr).2
  omega
theorem Tb.rise {t : List Row} (h : Tb t) : Rise t := h.ok.2.1
def contOut : Option (Int × Int × Int) → List GV
  | some (_, b, _) => [.i .i64 1, .i .i64 b]
  | none => [.i .i64 0]
theorem end69 (s : List UInt8) (size n least : Int) : TT.lim 38 [.s s, .i .i64 size, .i .i64 n, .i .i64 least, .i .i64 size] = some (contOut (some (size, n, least))) := by
  refine tree_lim rfl rfl ?_
  simp [contOut]
def atI (s : List UInt8) (k : Nat) : Int := ((s.getD k 0).toNat : Int)
theorem atI_b (s : List UInt8) (k : Nat) : 0 ≤ atI s k ∧ atI s k < 256 := by unfold atI; have := (s.getD k 0).toNat_lt; omega
theorem at_some {s : List UInt8} {k : Nat} (h : k < s.length) : s[k]? = some (s.getD k 0) := by simp [List.getD, h]
theorem step69 (s : List UInt8) (size n least : Int) (i : Nat) (hi : (i : Int) < size) (hl : i < s.length) (h0 : 0 ≤ n) (h1 : n < 1000000000000) (hs : size < 1000) :
    ∀ out, (if atI s i < 128 then some (contOut none) else if 192 ≤ atI s i then some (contOut none) else TT.lim 38 [.s s, .i .i64 size, .i .i64 (64 * n + atI s i - 128), .i .i64 least, .i .i64 ((i : Int) + 1)]) = some out →
    TT.lim 38 [.s s, .i .i64 size, .i .i64 n, .i .i64 least, .i .i64 i] = some out := by
  intro out h
  have hb := atI_b s i
  have hx : (s[i]?).bind (fun c => some (GV.i .u8 c.toNat)) = some (.i .u8 (atI s i)) := by rw [at_some hl]; rfl
  generalize atI s i = x at *
  have w1 := wrap64 (n := x) (by omega) (by omega)
  refine tree_lim rfl rfl ?_
  by_cases c1 : x < 128
  · rw [if_pos c1] at h
    rw [← h]
    simp [hi, hx, w1, c1, contOut]
  rw [if_neg c1] at h
  by_cases c2 : 192 ≤ x
  · rw [if_pos c2] at h
    rw [← h]
    simp [hi, hx, w1, c1, c2, contOut]
  rw [if_neg c2] at h
  have w2 := wrap64 (n := 64 * n) (by omega) (by omega)
  have w3 := wrap64 (n := 64 * n + x) (by omega) (by omega)
  have w4 := wrap64 (n := 64 * n + x - 128) (by omega) (by omega)
  have w5 := wrap64 (n := (i : Int) + 1) (by omega) (by omega)
  simp [hi, hx, w1, c1, c2, w2, w3, w4, w5, h]
def finI (v least size : Int) : Int := if v < least then 0 else if 1114111 < v then 0 else if 55296 ≤ v ∧ v < 57344 then 0 else size
abbrev badI (x : Int) : Prop := x < 128 ∨ 192 ≤ x
def firstI (n b0 b1 b2 b3 : Int) : Int :=
  if n = 0 then 0 else if b0 < 128 then 1 else if b0 < 192 then 0
  else if b0 < 224 then (if n < 2 then 0 else if badI b1 then 0 else finI (64 * (b0 - 192) + b1 - 128) 128 2)
  else if b0 < 240 then (if n < 3 then 0 else if badI b1 ∨ badI b2 then 0 else finI (64 * (64 * (b0 - 224) + b1 - 128) + b2 - 128) 2048 3)
  else if b0 < 248 then (if n < 4 then 0 else if badI b1 ∨ badI b2 ∨ badI b3 then 0 else finI (64 * (64 * (64 * (b0 - 240) + b1 - 128) + b2 - 128) + b3 - 128) 65536 4)
  else 0
/-- What the loop comes to: two, three, four bytes. -/
theorem loop2 (s : List UInt8) (n least : Int) (hl : 2 ≤ s.length) (h0 : 0 ≤ n) (h1 : n < 64) :
    TT.lim 38 [.s s, .i .i64 2, .i .i64 n, .i .i64 least, .i .i64 1] = some (contOut (if badI (atI s 1) then none else some (2, 64 * n + atI s 1 - 128, least))) := by
  refine step69 s 2 n least 1 (by decide) (by omega) h0 (by omega) (by decide) _ ?_
  have e := end69 s 2 (64 * n + atI s 1 - 128) least
  by_cases c : badI (atI s 1)
  · rw [if_pos c]
    rcases c with c | c
    · exact if_pos c
    · rw [if_neg (by omega)]; exact if_pos c
  · rw [if_neg c, if_neg (fun h => c (.inl h)), if_neg (fun h => c (.inr h))]; exact e
theorem loop3b (s : List UInt8) (n least : Int) (hl : 3 ≤ s.length) (h0 : 0 ≤ n) (h1 : n < 64) :
    TT.lim 38 [.s s, .i .i64 3, .i .i64 n, .i .i64 least, .i .i64 1] = some (contOut (if badI (atI s 1) ∨ badI (atI s 2) then none else some (3, 64 * (64 * n + atI s 1 - 128) + atI s 2 - 128, least))) := by
  have a1 := atI_b s 1
  refine step69 s 3 n least 1 (by decide) (by omega) h0 (by omega) (by decide) _ ?_
  by_cases c : badI (atI s 1)
  · rw [if_pos (show badI (atI s 1) ∨ badI (atI s 2) from .inl c)]
    rcases c with c | c
    · exact if_pos c
    · rw [if_neg (by omega)]; exact if_pos c
  · rw [if_neg (fun h => c (.inl h)), if_neg (fun h => c (.inr h))]
    have c1 : 128 ≤ atI s 1 := by omega
    refine step69 s 3 _ least 2 (by decide) (by omega) (by show 0 ≤ 64 * n + atI s 1 - 128; omega) (by show 64 * n + atI s 1 - 128 < _; omega) (by decide) _ ?_
    have e := end69 s 3 (64 * (64 * n + atI s 1 - 128) + atI s 2 - 128) least
    by_cases d : badI (atI s 2)
    · rw [if_pos (show badI (atI s 1) ∨ badI (atI s 2) from .inr d)]
      rcases d with d | d
      · exact if_pos d
      · rw [if_neg (by omega)]; exact if_pos d
    · rw [if_neg (show ¬ (badI (atI s 1) ∨ badI (atI s 2)) by simp [c, d]), if_neg (fun h => d (.inl h)), if_neg (fun h => d (.inr h))]; exact e
theorem loop4 (s : List UInt8) (n least : Int) (hl : 4 ≤ s.length) (h0 : 0 ≤ n) (h1 : n < 64) :
    TT.lim 38 [.s s, .i .i64 4, .i .i64 n, .i .i64 least, .i .i64 1] = some (contOut (if badI (atI s 1) ∨ badI (atI s 2) ∨ badI (atI s 3) then none else some (4, 64 * (64 * (64 * n + atI s 1 - 128) + atI s 2 - 128) + atI s 3 - 128, least))) := by
  have a1 := atI_b s 1
  have a2 := atI_b s 2
  refine step69 s 4 n least 1 (by decide) (by omega) h0 (by omega) (by decide) _ ?_
  by_cases c : badI (atI s 1)
  · rw [if_pos (show badI (atI s 1) ∨ badI (atI s 2) ∨ badI (atI s 3) from .inl c)]
    rcases c with c | c
    · exact if_pos c
    · rw [if_neg (by omega)]; exact if_pos c
  · rw [if_neg (fun h => c (.inl h)), if_neg (fun h => c (.inr h))]
    have c1 : 128 ≤ atI s 1 := by omega
    refine step69 s 4 _ least 2 (by decide) (by omega) (by show 0 ≤ 64 * n + atI s 1 - 128; omega) (by show 64 * n + atI s 1 - 128 < _; omega) (by decide) _ ?_
    by_cases d : badI (atI s 2)
    · rw [if_pos (show badI (atI s 1) ∨ badI (atI s 2) ∨ badI (atI s 3) from .inr (.inl d))]
      rcases d with d | d
      · exact if_pos d
      · rw [if_neg (by omega)]; exact if_pos d
    · rw [if_neg (fun h => d (.inl h)), if_neg (fun h => d (.inr h))]
      have d1 : 128 ≤ atI s 2 := by omega
      refine step69 s 4 _ least 3 (by decide) (by omega) (by show 0 ≤ 64 * (64 * n + atI s 1 - 128) + atI s 2 - 128; omega) (by show 64 * (64 * n + atI s 1 - 128) + atI s 2 - 128 < _; omega) (by decide) _ ?_
      have e := end69 s 4 (64 * (64 * (64 * n + atI s 1 - 128) + atI s 2 - 128) + atI s 3 - 128) least
      by_cases f : badI (atI s 3)
      · rw [if_pos (show badI (atI s 1) ∨ badI (atI s 2) ∨ badI (atI s 3) from .inr (.inr f))]
        rcases f with f | f
        · exact if_pos f
        · rw [if_neg (by omega)]; exact if_pos f
      · rw [if_neg (show ¬ (badI (atI s 1) ∨ badI (atI s 2) ∨ badI (atI s 3)) by simp [c, d, f]), if_neg (fun h => f (.inl h)), if_neg (fun h => f (.inr h))]; exact e
def firstF (s : List UInt8) : Int := firstI s.length (atI s 0) (atI s 1) (atI s 2) (atI s 3)
theorem contOut_b {c : Prop} [Decidable c] (x : Int × Int × Int) (h : c) : contOut (if c then none else some x) = [.i .i64 0] := by rw [if_pos h]; rfl
theorem contOut_g {c : Prop} [Decidable c] (a b d : Int) (h : ¬ c) : contOut (if c then none else some (a, b, d)) = [.i .i64 1, .i .i64 b] := by rw [if_neg h]; rfl
set_option maxHeartbeats 4000000 in
theorem first68 (s : List UInt8) (hl : s.length ≤ 140737488351232) : TT.lim 37 [.s s] = some [.i .i64 (firstF s)] := by
  have hb := atI_b s 0
  have k2 := fun hl h0 h1 => loop2 s (atI s 0 - 192) 128 hl h0 h1
  have k3 := fun hl h0 h1 => loop3b s (atI s 0 - 224) 2048 hl h0 h1
  have k4 := fun hl h0 h1 => loop4 s (atI s 0 - 240) 65536 hl h0 h1
  unfold firstF firstI
  by_cases hn : s.length = 0
  · refine fn_lim rfl rfl ?_ rfl
    simp [hn]
  have hn' : ¬ (s.length : Int) = 0 := by omega
  have hne : ¬ s = [] := fun e => hn (by rw [e]; rfl)
  have hx : (s[0]?).bind (fun c => some (GV.i .u8 c.toNat)) = some (.i .u8 (atI s 0)) := by rw [at_some (by omega)]; rfl
  have w1 := wrap64 (n := atI s 0) (by omega) (by omega)
  rw [if_neg hn']
  generalize atI s 0 = x at *
  generalize atI s 1 = b1 at *
  generalize atI s 2 = b2 at *
  generalize atI s 3 = b3 at *
  by_cases c0 : x < 128
  · refine fn_lim rfl rfl ?_ rfl
    simp [hn', hne, hx, w1, c0]
  by_cases c1 : x < 192
  · have d1 : ¬ 192 ≤ x := by omega
    have d2 : ¬ 224 ≤ x := by omega
    have d3 : ¬ 240 ≤ x := by omega
    refine fn_lim rfl rfl ?_ rfl
    simp [hn', hne, hx, w1, c0, c1, d1, d2, d3]
  have d1 : 192 ≤ x := by omega
  have w2 := wrap64 (n := x - 192) (by omega) (by omega)
  by_cases c2 : x < 224
  · rw [if_neg c0, if_neg c1, if_pos c2]
    by_cases n2 : (s.length : Int) < 2
    · refine fn_lim rfl rfl ?_ rfl
      simp [hn', hne, hx, w1, c0, d1, c2, w2, n2]
    rw [if_neg n2]
    have k := k2 (by omega) (by omega) (by omega)
    by_cases e1 : badI b1
    · rw [contOut_b _ e1] at k
      rw [if_pos e1]
      refine fn_lim rfl rfl ?_ rfl
      simp [hn', hne, hx, w1, c0, d1, c2, w2, n2, k]
    rw [contOut_g _ _ _ e1] at k
    rw [if_neg e1]
    generalize 64 * (x - 192) + b1 - 128 = v at *
    unfold finI
    by_cases f1 : v < 128
    · refine fn_lim rfl rfl ?_ rfl
      simp [hn', hne, hx, w1, c0, d1, c2, w2, n2, k, f1]
    by_cases f2 : 1114111 < v
    · refine fn_lim rfl rfl ?_ rfl
      simp [hn', hne, hx, w1, c0, d1, c2, w2, n2, k, f1, f2]
    by_cases f3 : 55296 ≤ v
    · by_cases f4 : v < 57344
      · refine fn_lim rfl rfl ?_ rfl
        simp [hn', hne, hx, w1, c0, d1, c2, w2, n2, k, f1, f2, f3, f4]
      · refine fn_lim rfl rfl ?_ rfl
        simp [hn', hne, hx, w1, c0, d1, c2, w2, n2, k, f1, f2, f3, f4]
    · refine fn_lim rfl rfl ?_ rfl
      simp [hn', hne, hx, w1, c0, d1, c2, w2, n2, k, f1, f2, f3]
  have d2 : 224 ≤ x := by omega
  have w3 := wrap64 (n := x - 224) (by omega) (by omega)
  by_cases c3 : x < 240
  · rw [if_neg c0, if_neg c1, if_neg c2, if_pos c3]
    by_cases n2 : (s.length : Int) < 3
    · refine fn_lim rfl rfl ?_ rfl
      simp [hn', hne, hx, w1, c0, d1, c2, d2, c3, w3, n2]
    rw [if_neg n2]
    have k := k3 (by omega) (by omega) (by omega)
    by_cases e1 : badI b1 ∨ badI b2
    · rw [contOut_b _ e1] at k
      rw [if_pos e1]
      refine fn_lim rfl rfl ?_ rfl
      simp [hn', hne, hx, w1, c0, d1, c2, d2, c3, w3, n2, k]
    rw [contOut_g _ _ _ e1] at k
    rw [if_neg e1]
    generalize 64 * (64 * (x - 224) + b1 - 128) + b2 - 128 = v at *
    unfold finI
    by_cases f1 : v < 2048
    · refine fn_lim rfl rfl ?_ rfl
      simp [hn', hne, hx, w1, c0, d1, c2, d2, c3, w3, n2, k, f1]
    by_cases f2 : 1114111 < v
    · refine fn_lim rfl rfl ?_ rfl
      simp [hn', hne, hx, w1, c0, d1, c2, d2, c3, w3, n2, k, f1, f2]
    by_cases f3 : 55296 ≤ v
    · by_cases f4 : v < 57344
      · refine fn_lim rfl rfl ?_ rfl
        simp [hn', hne, hx, w1, c0, d1, c2, d2, c3, w3, n2, k, f1, f2, f3, f4]
      · refine fn_lim rfl rfl ?_ rfl
        simp [hn', hne, hx, w1, c0, d1, c2, d2, c3, w3, n2, k, f1, f2, f3, f4]
    · refine fn_lim rfl rfl ?_ rfl
      simp [hn', hne, hx, w1, c0, d1, c2, d2, c3, w3, n2, k, f1, f2, f3]
  have d3 : 240 ≤ x := by omega
  have w4 := wrap64 (n := x - 240) (by omega) (by omega)
  by_cases c4 : x < 248
  · rw [if_neg c0, if_neg c1, if_neg c2, if_neg c3, if_pos c4]
    by_cases n2 : (s.length : Int) < 4
    · refine fn_lim rfl rfl ?_ rfl
      simp [hn', hne, hx, w1, c0, d1, c2, d2, c3, d3, c4, w4, n2]
    rw [if_neg n2]
    have k := k4 (by omega) (by omega) (by omega)
    by_cases e1 : badI b1 ∨ badI b2 ∨ badI b3
    · rw [contOut_b _ e1] at k
      rw [if_pos e1]
      refine fn_lim rfl rfl ?_ rfl
      simp [hn', hne, hx, w1, c0, d1, c2, d2, c3, d3, c4, w4, n2, k]
    rw [contOut_g _ _ _ e1] at k
    rw [if_neg e1]
    generalize 64 * (64 * (64 * (x - 240) + b1 - 128) + b2 - 128) + b3 - 128 = v at *
    unfold finI
    by_cases f1 : v < 65536
    · refine fn_lim rfl rfl ?_ rfl
      simp [hn', hne, hx, w1, c0, d1, c2, d2, c3, d3, c4, w4, n2, k, f1]
    by_cases f2 : 1114111 < v
    · refine fn_lim rfl rfl ?_ rfl
      simp [hn', hne, hx, w1, c0, d1, c2, d2, c3, d3, c4, w4, n2, k, f1, f2]
    by_cases f3 : 55296 ≤ v
    · by_cases f4 : v < 57344
      · refine fn_lim rfl rfl ?_ rfl
        simp [hn', hne, hx, w1, c0, d1, c2, d2, c3, d3, c4, w4, n2, k, f1, f2, f3, f4]
      · refine fn_lim rfl rfl ?_ rfl
        simp [hn', hne, hx, w1, c0, d1, c2, d2, c3, d3, c4, w4, n2, k, f1, f2, f3, f4]
    · refine fn_lim rfl rfl ?_ rfl
      simp [hn', hne, hx, w1, c0, d1, c2, d2, c3, d3, c4, w4, n2, k, f1, f2, f3]
  · refine fn_lim rfl rfl ?_ rfl
    simp [hn', hne, hx, w1, c0, c1, d1, c2, d2, c3, d3, c4]
set_option maxHeartbeats 8000000 in
/-- It is the model's own way of decoding. -/
theorem firstI_N (n b0 b1 b2 b3 : Nat) (hn : 0 < n) (h0 : b0 < 256) (h1 : b1 < 256) (h2 : b2 < 256) (h3 : b3 < 256) : firstI n b0 b1 b2 b3 = if (Lib.decodeN n b0 b1 b2 b3).1 = 65533 ∧ (Lib.decodeN n b0 b1 b2 b3).2 = 1 then 0 else ((Lib.decodeN n b0 b1 b2 b3).2 : Nat) := by
  generalize hd : Lib.decodeN n b0 b1 b2 b3 = d
  unfold Lib.decodeN at hd
  unfold firstI finI
  rw [if_neg (by omega)]
  repeat' split at hd
  all_goals subst hd
  all_goals dsimp only
  · rw [if_pos (by omega), if_neg (by omega)]; rfl
  all_goals rw [if_neg (show ¬ (b0 : Int) < 128 by omega)]
  all_goals first | rw [if_neg (by omega)] | rw [if_pos (show True ∧ True from ⟨trivial, trivial⟩)] | skip
  all_goals (repeat' split)
  all_goals first | omega | (simp only [not_true_eq_false, and_self] at *; omega)
theorem firstF_eq (s : List UInt8) (hne : s ≠ []) : firstF s = if (Lib.decodeL s).1 = 65533 ∧ (Lib.decodeL s).2 = 1 then 0 else ((Lib.decodeL s).2 : Nat) := by
  unfold firstF atI
  rw [Lib.decodeL_N]
  exact firstI_N _ _ _ _ _ (List.length_pos_iff.2 hne) (UInt8.toNat_lt _) (UInt8.toNat_lt _) (UInt8.toNat_lt _) (UInt8.toNat_lt _)
theorem decodeL_pos (s : List UInt8) : 1 ≤ (Lib.decodeL s).2 := by
  rw [Lib.decodeL_N]
  rcases Lib.decodeN_shape s.length (s.getD 0 0).toNat (s.getD 1 0).toNat (s.getD 2 0).toNat (s.getD 3 0).toNat with ⟨_, e⟩ | ⟨_, _, _, _, e⟩ | ⟨_, _, _, _, _, _, e⟩ | ⟨_, _, _, _, _, _, _, e⟩ | e
  all_goals rw [e]; dsimp only; omega
theorem loop67 : ∀ (n : Nat) (s : List UInt8), s.length ≤ n → s.length ≤ 140737488351232 → TT.lim 36 [.s s] = some (if Lib.validGoD n s = true then [.i .i64 1] else [.i .i64 0])
  | 0, s, hn, hl => by
    obtain rfl : s = [] := List.eq_nil_of_length_eq_zero (by omega)
    refine tree_lim rfl rfl ?_
    simp [Lib.validGoD]
  | n + 1, s, hn, hl => by
    by_cases hne : s = []
    · subst hne
      refine tree_lim rfl rfl ?_
      simp [Lib.validGoD]
    have hp := List.length_pos_iff.2 hne
    have k := first68 s hl
    have hf := firstF_eq s hne
    have hle := Lib.decodeL_le s hne
    have hd := decodeL_pos s
    have hp' : (0 : Int) < (s.length : Int) := by omega
    unfold Lib.validGoD
    rw [if_neg hne]
    by_cases c : (Lib.decodeL s).1 = 65533 ∧ (Lib.decodeL s).2 = 1
    · rw [if_pos c] at hf
      rw [hf] at k
      rw [if_pos c]
      refine tree_lim rfl rfl ?_
      simp [hp, hp', k]
    · rw [if_neg c] at hf
      rw [hf] at k
      rw [if_neg c]
      have ih := loop67 n (s.drop (Lib.decodeL s).2) (by simp; omega) (by simp; omega)
      generalize (Lib.decodeL s).2 = w at *
      have hw : ¬ w = 0 := by omega
      have ht : List.take s.length s = s := List.take_length
      refine tree_lim rfl rfl ?_
      simp [hp, hp', k, hw, hle, ht, ih]
theorem good66 (s : List UInt8) (h : s.length ≤ 140737488351232) : TT.lim 35 [.s s] = some [.b (Lib.validD s)] := by
  have k := loop67 s.length s (Nat.le_refl _) h
  unfold Lib.validD
  refine fn_lim rfl rfl ?_ rfl
  cases hv : Lib.validGoD s.length s <;> rw [hv] at k <;> simp at k <;> simp [k]
theorem check65 (s : List UInt8) (lo hi : Int) (h : s.length ≤ 140737488351232) : TT.lim 34 [.s s, .i .i64 lo, .i .i64 hi] = some [.i .i64 (utfChk s lo hi)] := by
  have h20 := good66 s h
  refine fn_lim rfl rfl ?_ rfl
  unfold utfChk
  by_cases h1 : (s.length : Int) < lo
  · simp [h1]
  · by_cases h2 : hi < (s.length : Int)
    · simp [h1, h2]
    · cases hv : Lib.validD s <;> rw [hv] at h20 <;> simp [h1, h2, h20, hv]
theorem entcheck64 (x : Ent) (h1 : x.1.length ≤ 140737488351232) (h2 : x.2.length ≤ 140737488351232) : TT.lim 33 [ent x] = some [.i .i64 (entChk x)] := by
  have k1 := check65 x.1 1 64 h1
  have k2 := check65 x.2 0 256 h2
  refine fn_lim rfl rfl ?_ rfl
  unfold entChk
  by_cases h : utfChk x.1 1 64 = 0
  · simp [k1, h, k2]
  · simp [k1, h]
def diffAt : List UInt8 → List UInt8 → Option Bool
  | x :: a, y :: b => if x = y then diffAt a b else some (decide (x < y))
  | _, _ => none
theorem bytesLess_diff : ∀ a b : List UInt8, Op.bytesLess a b = (diffAt a b).getD (decide (a.length < b.length))
  | [], [] => rfl
  | [], _ :: _ => by simp [Op.bytesLess, diffAt]
  | _ :: _, [] => by simp [Op.bytesLess, diffAt]
  | x :: a, y :: b => by
    unfold Op.bytesLess diffAt
    rw [bytesLess_diff a b]
    by_cases h : x = y
    · subst h
      simp [UInt8.lt_irrefl]
    · simp [h]
def out73 (a b : List UInt8) : Option Bool → List GV
  | some r => [.i .i64 0, .b r]
  | none => [.i .i64 1]
theorem loop73 (a b : List UInt8) (ha : a.length ≤ 140737488351232) (hb : b.length ≤ 140737488351232) : ∀ m i : Nat, i + m = a.length → TT.lim 42 [.s a, .s b, .i .i64 i] = some (out73 a b (diffAt (a.drop i) (b.drop i)))
  | 0, i, hi => by
    have h0 : a.drop i = [] := List.drop_eq_nil_of_le (by omega)
    have h : ¬ ((i : Int) < a.length) := by omega
    refine tree_lim rfl rfl ?_
    simp [h, h0, diffAt, out73]
  | m + 1, i, hi => by
    have hlt : i < a.length := by omega
    have h : ((i : Int) < a.length) := by omega
    by_cases hlb : i < b.length
    rotate_left
    · have h0 : b.drop i = [] := List.drop_eq_nil_of_le (by omega)
      have h1 : ¬ ((i : Int) < b.length) := by omega
      have hd : diffAt (a.drop i) [] = none := by cases a.drop i <;> rfl
      refine tree_lim rfl rfl ?_
      simp [h, h0, h1, hd, out73]
    have hb1 : ((i : Int) < b.length) := by omega
    have ih : TT.lim 42 [.s a, .s b, .i .i64 ((i : Int) + 1)] = _ := loop73 a b ha hb m (i + 1) (by omega)
    have hw := wrap64 (n := (i : Int) + 1) (by omega) (by omega)
    rw [List.drop_eq_getElem_cons hlt, List.drop_eq_getElem_cons hlb]
    unfold diffAt
    by_cases e : a[i] = b[i]
    · rw [if_pos e]
      have e' : ((a[i].toNat : Int) = (b[i].toNat : Int)) = True := eq_true (by rw [e])
      refine tree_lim rfl rfl ?_
      simp [h, hlt, hlb, hb1, e', hw, ih]
    · rw [if_neg e]
      have e' : ¬ (a[i].toNat : Int) = (b[i].toNat : Int) := fun h => e (UInt8.toNat_inj.1 (by omega))
      have hd : decide (a[i] < b[i]) = decide (a[i].toNat < b[i].toNat) := by rw [Bool.eq_iff_iff]; simp [UInt8.lt_iff_toNat_lt]
      refine tree_lim rfl rfl ?_
      simp [h, hlt, hlb, hb1, e', hd, out73]
theorem less72 (a b : List UInt8) (ha : a.length ≤ 140737488351232) (hb : b.length ≤ 140737488351232) : TT.lim 41 [.s a, .s b] = some [.b (Op.bytesLess a b)] := by
  have k : TT.lim 42 [.s a, .s b, .i .i64 0] = _ := loop73 a b ha hb a.length 0 (by omega)
  rw [List.drop_zero, List.drop_zero] at k
  rw [bytesLess_diff]
  refine fn_lim rfl rfl ?_ rfl
  cases hd : diffAt a b with
  | none =>
    rw [hd] at k
    have hl : decide ((a.length : Int) < (b.length : Int)) = decide (a.length < b.length) := by rw [Bool.eq_iff_iff]; simp
    simp [k, out73, hl]
  | some r =>
    rw [hd] at k
    simp [k, out73]
def cmpE (x y : Ent) : Int := if Op.bytesLess x.1 y.1 = true then -1 else if x.1 = y.1 ∧ Op.bytesLess x.2 y.2 = true then -1 else if x = y then 0 else 1
structure SmallE (x : Ent) : Prop where
  key : x.1.length ≤ 140737488351232
  val : x.2.length ≤ 140737488351232
theorem cmp71 (x y : Ent) (hx : SmallE x) (hy : SmallE y) : TT.lim 40 [ent x, ent y] = some [.i .i64 (cmpE x y)] := by
  have k1 := less72 x.1 y.1 hx.key hy.key
  have k2 := less72 x.2 y.2 hx.val hy.val
  have ke := eqGs_ent x y
  unfold cmpE
  refine fn_lim rfl rfl ?_ rfl
  cases h1 : Op.bytesLess x.1 y.1 with
  | true => rw [h1] at k1; simp [k1]
  | false =>
    rw [h1] at k1
    by_cases h2 : x.1 = y.1
    · have h2' : (x.1 = y.1) = True := eq_true h2
      clear h2
      cases h3 : Op.bytesLess x.2 y.2 with
      | true => rw [h3] at k2; simp [k1, h2', k2]
      | false =>
        rw [h3] at k2
        by_cases h4 : x = y
        · have h4' : decide (x = y) = true := by simp [h4]
          rw [h4'] at ke
          have h4'' : (x = y) = True := eq_true h4
          clear h4
          simp [k1, h2', k2, ke, h4'']
        · have h4' : decide (x = y) = false := by simp [h4]
          rw [h4'] at ke
          simp [k1, h2', k2, ke, h4]
    · by_cases h4 : x = y
      · exact absurd (by rw [h4]) h2
      · have h4' : decide (x = y) = false := by simp [h4]
        rw [h4'] at ke
        simp [k1, h2, ke, h4]
def behE (p x : List UInt8) : Int := if x = p then 14 else if Op.bytesLess x p = true then 7 else 0
theorem behind70 (p x : Ent) (hp : SmallE p) (hx : SmallE x) : TT.lim 39 [ent p, ent x] = some [.i .i64 (behE p.1 x.1)] := by
  have k := cmp71 p x hp hx
  have e1 : GV.g [.s p.1, .s p.2] = ent p := rfl
  have e2 : GV.g [.s x.1, .s x.2] = ent x := rfl
  unfold behE
  by_cases h1 : x.1 = p.1
  · have h1' : (p.1 = x.1) = True := eq_true h1.symm
    rw [if_pos h1]
    refine fn_lim rfl rfl ?_ rfl
    simp [h1']
  rw [if_neg h1]
  have h1' : ¬ p.1 = x.1 := fun e => h1 e.symm
  have hne : ¬ p = x := fun e => h1' (by rw [e])
  have hc : cmpE p x = if Op.bytesLess x.1 p.1 = true then 1 else -1 := by
    unfold cmpE
    by_cases h2 : p.1 < x.1
    · rw [if_pos ((bl_iff _ _).2 h2), if_neg fun h => List.lt_irrefl _ (List.lt_trans h2 ((bl_iff _ _).1 h))]
    · have h3 : x.1 < p.1 := by
        rcases List.le_iff_lt_or_eq.1 (List.not_lt.1 h2) with h | h
        · exact h
        · exact absurd h h1
      rw [if_neg fun h => h2 ((bl_iff _ _).1 h), if_neg fun h => h1' h.1, if_neg hne, if_pos ((bl_iff _ _).2 h3)]
  rw [hc] at k
  refine fn_lim rfl rfl ?_ rfl
  cases h3 : Op.bytesLess x.1 p.1 with
  | true => rw [h3] at k; simp [h1', e1, e2, k]
  | false => rw [h3] at k; simp [h1', e1, e2, k]
theorem Ents.small {d : List Ent} (h : Ents d) : ∀ x ∈ d, SmallE x := fun x hx => ⟨(h.2 x hx).1, (h.2 x hx).2⟩
theorem loop63_stop (d : List Ent) (e i : Int) (he : e ≠ 0) : TT.lim 32 [.l (d.map ent), .i .i64 e, .i .i64 i] = some [.i .i64 0, .i .i64 e] := by
  refine tree_lim rfl rfl ?_
  by_cases h : i < (d.length : Int)
  · simp [h, he]
  · simp [h]
theorem loop63 (d : List Ent) (hd : Ents d) : ∀ m i : Nat, i + m = d.length → TT.lim 32 [.l (d.map ent), .i .i64 0, .i .i64 i] = some [.i .i64 0, .i .i64 (chkL (prevK d i) (d.drop i))]
  | 0, i, hi => by
    have h0 : d.drop i = [] := List.drop_eq_nil_of_le (by omega)
    refine tree_lim rfl rfl ?_
    have h : ¬ ((i : Int) < d.length) := by omega
    simp [h, h0, chkL]
  | m + 1, i, hi => by
    have hlt : i < d.length := by omega
    have hx := hd.small d[i] (List.getElem_mem hlt)
    have hp := entcheck64 d[i] hx.key hx.val
    have ih : TT.lim 32 [.l (d.map ent), .i .i64 0, .i .i64 ((i : Int) + 1)] = _ := loop63 d hd m (i + 1) (by omega)
    have hst := fun e he => loop63_stop d e ((i : Int) + 1) he
    have hpk : prevK d (i + 1) = some d[i].1 := by unfold prevK; rw [if_neg (by omega)]; simp [hlt]
    rw [hpk] at ih
    have hdr : d.drop i = d[i] :: d.drop (i + 1) := List.drop_eq_getElem_cons hlt
    rw [hdr]
    have h : ((i : Int) < d.length) := by omega
    have hw := wrap64 (n := (i : Int) + 1) (by omega) (by have := hd.1; omega)
    have he : GV.g [GV.s d[i].1, GV.s d[i].2] = ent d[i] := rfl
    by_cases h1 : entChk d[i] = 0
    rotate_left
    · have hs := hst _ h1
      have hc : chkL (prevK d i) (d[i] :: d.drop (i + 1)) = entChk d[i] := by
        cases prevK d i <;> simp [chkL, h1]
      rw [hc]
      refine tree_lim rfl rfl ?_
      simp [h, hlt, he, hp, h1, hw, hs]
    by_cases h0 : i = 0
    · subst h0
      have hc : chkL (prevK d 0) (d[0] :: d.drop 1) = chkL (some d[0].1) (d.drop 1) := by simp [prevK, chkL, h1]
      rw [hc]
      simp only [Int.natCast_zero, Int.zero_add] at hw ih
      have hpos : (0 : Int) < (d.length : Int) := by omega
      generalize chkL (some d[0].1) (d.drop 1) = out at *
      refine tree_lim rfl rfl ?_
      simp [h, hlt, hpos, he, hp, h1, hw, ih]
    · have hi1 : i - 1 < d.length := by omega
      have hpk2 : prevK d i = some d[i - 1].1 := by unfold prevK; rw [if_neg h0]; simp [hi1]
      have hw2 := wrap64 (n := (i : Int) - 1) (by omega) (by have := hd.1; omega)
      have hi0 : (0 : Int) < (i : Int) := by omega
      have hi0n : 0 < i := by omega
      have ht : ((i : Int) - 1).toNat = i - 1 := by omega
      have hnl : (1 : Int) ≤ (i : Int) := by omega
      have hge : (0 : Int) ≤ (i : Int) - 1 := by omega
      have hy := hd.small d[i - 1] (List.getElem_mem hi1)
      have kb := behind70 d[i - 1] d[i] hy hx
      have he2 : GV.g [GV.s d[i - 1].1, GV.s d[i - 1].2] = ent d[i - 1] := rfl
      have hc : chkL (prevK d i) (d[i] :: d.drop (i + 1)) = if behE d[i - 1].1 d[i].1 ≠ 0 then behE d[i - 1].1 d[i].1 else chkL (some d[i].1) (d.drop (i + 1)) := by
        rw [hpk2]
        unfold behE
        conv => lhs; unfold chkL
        rw [if_neg (by simp [h1])]
        by_cases q1 : d[i].1 = d[i - 1].1
        · simp [q1]
        · by_cases q2 : Op.bytesLess d[i].1 d[i - 1].1 = true
          · simp [q1, q2]
          · simp [q1, q2]
      rw [hc]
      have hst2 := hst (behE d[i - 1].1 d[i].1)
      generalize behE d[i - 1].1 d[i].1 = bb at *
      generalize chkL (some d[i].1) (d.drop (i + 1)) = out at *
      by_cases hb : bb = 0
      · subst hb
        refine tree_lim rfl rfl ?_
        simp [h, hlt, he, he2, hp, h1, hi0, hi0n, hw2, ht, hge, hi1, hnl, kb, hw, ih]
      · have hs := hst2 hb
        refine tree_lim rfl rfl ?_
        simp [h, hlt, he, he2, hp, h1, hi0, hi0n, hw2, ht, hge, hi1, hnl, kb, hw, hb, hs]
theorem check62 (d : List Ent) (hd : Ents d) : TT.lim 31 [.l (d.map ent)] = some [.i .i64 (descrChk d)] := by
  have h17 : TT.lim 32 [.l (d.map ent), .i .i64 0, .i .i64 0] = _ := loop63 d hd d.length 0 (by omega)
  have hpk : prevK d 0 = none := rfl
  rw [hpk, List.drop_zero] at h17
  have w1 := wrapu64 (n := (d.length : Int)) (by omega) (by have := hd.1; omega)
  have s1 := loop63_stop d 12 0 (by decide)
  have s2 := loop63_stop d 13 0 (by decide)
  refine fn_lim rfl rfl ?_ rfl
  unfold descrChk
  by_cases h0 : d.length = 0
  · have : d = [] := List.eq_nil_of_length_eq_zero h0
    subst this
    simp only [List.map_nil] at s1
    simp [IntKind.wrap, IntKind.signed, s1]
  · have hne : ¬ d = [] := fun e => h0 (by rw [e]; rfl)
    by_cases h1 : 16 < d.length
    · have h1' : (16 : Int) < (d.length : Int) := by omega
      simp [w1, h0, hne, h1, h1', s2]
    · have h1' : ¬ (16 : Int) < (d.length : Int) := by omega
      simp [w1, h0, hne, h1, h1', h17]
theorem rowchk61 (r : Row) (hd : Ents r.1) : TT.lim 30 [row r] = some [.i .i64 (rowChk r)] := by
  have k := check62 r.1 hd
  refine fn_lim rfl rfl ?_ rfl
  unfold rowChk
  by_cases h : descrChk r.1 = 0
  · by_cases h2 : r.2 = 0
    · simp [k, h, h2]
    · simp [k, h, h2]
  · simp [k, h]
theorem loop57 (d : List Ent) (hd : d.length ≤ 40) : ∀ (m i : Nat) (acc : List Ent), i + m = d.length → acc.length = i → TT.lim 27 [.l (acc.map ent), .l (d.map ent), .i .i64 d.length, .i .i64 i] = some [.i .i64 0, .l ((acc ++ d.drop i).map ent)]
  | 0, i, acc, hi, ha => by
    have h0 : d.drop i = [] := List.drop_eq_nil_of_le (by omega)
    have h : ¬ ((i : Int) < d.length) := by omega
    refine tree_lim rfl rfl ?_
    simp [h, h0]
  | m + 1, i, acc, hi, ha => by
    have hlt : i < d.length := by omega
    have ih : TT.lim 27 [.l ((acc ++ [d[i]]).map ent), .l (d.map ent), .i .i64 d.length, .i .i64 ((i : Int) + 1)] = _ := loop57 d hd m (i + 1) (acc ++ [d[i]]) (by omega) (by simp; omega)
    rw [List.append_assoc, List.singleton_append, ← List.drop_eq_getElem_cons hlt] at ih
    generalize hL : (acc ++ d.drop i).map ent = L at ih ⊢
    simp only [List.map_append, List.map_cons, List.map_nil] at ih
    have h : ((i : Int) < d.length) := by omega
    have hw := wrap64 (n := (i : Int) + 1) (by omega) (by omega)
    have he : GV.g [GV.s d[i].1, GV.s d[i].2] = ent d[i] := rfl
    have hok : (ent d[i]).elemOk 2 = true := rfl
    have hb : 2 * (acc.length + 1) * 32 ≤ 281474976710656 ∧ acc.length + 1 ≤ 281474976710656 := by omega
    refine tree_lim rfl rfl ?_
    simp [h, hlt, he, hok, hb, hw, ih]
theorem to56 (d : List Ent) (hd : d.length ≤ 40) : TT.lim 26 [.l (d.map ent)] = some [.l (d.map ent)] := by
  have k : TT.lim 27 [.l [], .l (d.map ent), .i .i64 d.length, .i .i64 0] = _ := loop57 d hd d.length 0 [] (by omega) rfl
  rw [List.drop_zero, List.nil_append] at k
  refine fn_lim rfl rfl ?_ rfl
  simp [k]
theorem loop55 (l : List Row) (hl : l.length ≤ 300) (hf : Few l) : ∀ (m i : Nat) (acc : List Row), i + m = l.length → acc.length = i → TT.lim 25 [.l (acc.map row), .l (l.map row), .i .i64 l.length, .i .i64 i] = some [.i .i64 0, .l ((acc ++ l.drop i).map row)]
  | 0, i, acc, hi, ha => by
    have h0 : l.drop i = [] := List.drop_eq_nil_of_le (by omega)
    have h : ¬ ((i : Int) < l.length) := by omega
    refine tree_lim rfl rfl ?_
    simp [h, h0]
  | m + 1, i, acc, hi, ha => by
    have hlt : i < l.length := by omega
    have ih : TT.lim 25 [.l ((acc ++ [l[i]]).map row), .l (l.map row), .i .i64 l.length, .i .i64 ((i : Int) + 1)] = _ := loop55 l hl hf m (i + 1) (acc ++ [l[i]]) (by omega) (by simp; omega)
    rw [List.append_assoc, List.singleton_append, ← List.drop_eq_getElem_cons hlt] at ih
    generalize hL : (acc ++ l.drop i).map row = L at ih ⊢
    simp only [List.map_append, List.map_cons, List.map_nil] at ih
    have k := to56 l[i].1 (few40 (hf _ (List.getElem_mem hlt)))
    have h : ((i : Int) < l.length) := by omega
    have hw := wrap64 (n := (i : Int) + 1) (by omega) (by omega)
    have he : GV.g [GV.l (l[i].1.map ent), GV.i .u64 l[i].2] = row l[i] := rfl
    have hok : (row l[i]).elemOk 2 = true := rfl
    have hb : 2 * (acc.length + 1) * 32 ≤ 281474976710656 ∧ acc.length + 1 ≤ 281474976710656 := by omega
    refine tree_lim rfl rfl ?_
    simp [h, hlt, k, he, hok, hb, hw, ih]
theorem tmod128 (n : Nat) : (n : Int).tmod 128 = ((n % 128 : Nat) : Int) := by rw [Int.tmod_eq_emod_of_nonneg (by omega)]; omega
theorem tdiv128 (n : Nat) : (n : Int).tdiv 128 = ((n / 128 : Nat) : Int) := by rw [Int.tdiv_eq_ediv_of_nonneg (by omega)]; omega
theorem bytesG_one (n : Nat) (h : n < 256) : bytesG [.i .u8 (n : Int)] = some [UInt8.ofNat n] := by
  have := bytesG_map [n] (by simpa using h)
  simpa [byteG] using this
theorem add_one (s : List UInt8) (c : UInt8) (h : s.length ≤ 1000000) : bin2 .add (some (.s s)) (some (.s [c])) = some (.s (s ++ [c])) := by
  rw [bin2_sadd, if_pos (by simp only [List.length_singleton]; omega)]
theorem step76 (n a b q : Int) (s c r : List UInt8) (h' : 127 < n) (e1 : n.tmod 128 = a) (e2 : n.tdiv 128 = b) (w1 : IntKind.u64.wrap (a + 128) = a + 128) (w2 : IntKind.u8.wrap (a + 128) = a + 128) (w3 : IntKind.u64.wrap b = b)
    (e3 : bytesG [.i .u8 (a + 128)] = some c) (hb : bin2 .add (some (.s s)) (some (.s c)) = some (.s (s ++ c))) (k : TT.lim 47 [.i .u64 b, .s (s ++ c)] = some [.i .i64 0, .i .u64 q, .s (s ++ (c ++ r))]) :
    TT.lim 47 [.i .u64 n, .s s] = some [.i .i64 0, .i .u64 q, .s (s ++ (c ++ r))] := by
  refine tree_lim rfl rfl ?_
  simp [-bin2_sadd, h', e1, e2, w1, w2, w3, e3, hb, k]
theorem put75_aux (n q : Int) (r c : List UInt8) (k : TT.lim 47 [.i .u64 n, .s []] = some [.i .i64 0, .i .u64 q, .s r]) (w : IntKind.u8.wrap q = q) (e : bytesG [.i .u8 q] = some c) (hr : bin2 .add (some (.s r)) (some (.s c)) = some (.s (r ++ c))) :
    TT.lim 46 [.i .u64 n] = some [.s (r ++ c)] := by
  refine fn_lim rfl rfl ?_ rfl
  simp [-bin2_sadd, k, w, e, hr]
theorem loop76 : ∀ n : Nat, n < 18446744073709551616 → ∃ q r, q < 128 ∧ r ++ [UInt8.ofNat q] = vput n ∧ ∀ s : List UInt8, s.length + (vput n).length ≤ 1000 → TT.lim 47 [.i .u64 n, .s s] = some [.i .i64 0, .i .u64 (q : Nat), .s (s ++ r)] := by
  intro n
  induction n using Nat.strongRecOn with
  | _ n ih =>
    intro hn
    by_cases h : n < 128
    · refine ⟨n, [], h, by rw [vput_lt h, List.nil_append], fun s hs => ?_⟩
      have h' : ¬ (127 : Int) < (n : Int) := by omega
      refine tree_lim rfl rfl ?_
      simp [h']
    · obtain ⟨q, r, h1, h2, h3⟩ := ih (n / 128) (by omega) (by omega)
      refine ⟨q, [UInt8.ofNat (n % 128 + 128)] ++ r, h1, by rw [vput_ge h, ← h2, List.append_assoc, List.singleton_append], fun s hs => ?_⟩
      rw [vput_ge h, List.length_cons] at hs
      have k := h3 (s ++ [UInt8.ofNat (n % 128 + 128)]) (by simp; omega)
      rw [List.append_assoc] at k
      have e3 := bytesG_one (n % 128 + 128) (by omega)
      rw [show ((n % 128 + 128 : Nat) : Int) = ((n % 128 : Nat) : Int) + 128 by omega] at e3
      exact step76 n _ _ q s _ r (by omega) (tmod128 n) (tdiv128 n) (wrapu64 (by omega) (by omega)) (wrapu8 (by omega) (by omega)) (wrapu64 (by omega) (by omega)) e3 (add_one s _ (by omega)) k
theorem put75 (n : Nat) (hn : n < 18446744073709551616) : TT.lim 46 [.i .u64 n] = some [.s (vput n)] := by
  obtain ⟨q, r, h1, h2, h3⟩ := loop76 n hn
  have hl := vput_len hn
  have k := h3 [] (by simp; omega)
  rw [List.nil_append] at k
  rw [← h2]
  exact put75_aux n q r _ k (wrapu8 (by omega) (by omega)) (bytesG_one q (by omega)) (add_one r _ (by rw [← h2] at hl; simp at hl; omega))
theorem entput78 (x : Ent) (h1 : x.1.length ≤ 140737488351232) (h2 : x.2.length ≤ 140737488351232) : TT.lim 49 [ent x] = some [.s (entPut x)] := by
  have k1 := put75 x.1.length (by omega)
  have k2 := put75 x.2.length (by omega)
  have l1 := vput_len (n := x.1.length) (by omega)
  have l2 := vput_len (n := x.2.length) (by omega)
  have w1 := wrapu64 (n := (x.1.length : Int)) (by omega) (by omega)
  have w2 := wrapu64 (n := (x.2.length : Int)) (by omega) (by omega)
  have c1 : ((vput x.1.length).length : Int) + (x.1.length : Int) ≤ 9223372036854775807 := by omega
  have c2 : ((vput x.1.length).length : Int) + ((x.1.length : Int) + ((vput x.2.length).length : Int)) ≤ 9223372036854775807 := by omega
  have c3 : ((vput x.1.length).length : Int) + ((x.1.length : Int) + (((vput x.2.length).length : Int) + (x.2.length : Int))) ≤ 9223372036854775807 := by omega
  refine fn_lim rfl rfl ?_ rfl
  simp [w1, w2, k1, k2, c1, c2, c3, entPut, Int.add_assoc]
theorem loop77 (d : List Ent) (hf : d.all fewE = true) (hl : d.length ≤ 40) : ∀ (m i : Nat) (acc : List UInt8), i + m = d.length → acc.length ≤ 10 + 620 * i →
    TT.lim 48 [.s acc, .l (d.map ent), .i .i64 d.length, .i .i64 i] = some [.i .i64 0, .s (acc ++ (d.drop i).flatMap entPut)]
  | 0, i, acc, hi, ha => by
    have h0 : d.drop i = [] := List.drop_eq_nil_of_le (by omega)
    refine tree_lim rfl rfl ?_
    have h : ¬ ((i : Int) < d.length) := by omega
    simp [h, h0]
  | m + 1, i, acc, hi, ha => by
    have hlt : i < d.length := by omega
    have hx := List.all_eq_true.1 hf d[i] (List.getElem_mem hlt)
    have hx1 := hx
    unfold fewE at hx1
    simp only [decide_eq_true_iff] at hx1
    have hp := entput78 d[i] (by omega) (by omega)
    have hpl := entPut_len hx
    have ih : TT.lim 48 [.s (acc ++ entPut d[i]), .l (d.map ent), .i .i64 d.length, .i .i64 ((i : Int) + 1)] = _ := loop77 d hf hl m (i + 1) (acc ++ entPut d[i]) (by omega) (by simp; omega)
    have hd : (d.drop i).flatMap entPut = entPut d[i] ++ (d.drop (i + 1)).flatMap entPut := by rw [List.drop_eq_getElem_cons hlt, List.flatMap_cons]
    rw [hd, ← List.append_assoc]
    have h : ((i : Int) < d.length) := by omega
    have hw := wrap64 (n := (i : Int) + 1) (by omega) (by omega)
    have hb : (acc.length : Int) + ((entPut d[i]).length : Int) ≤ 9223372036854775807 := by omega
    have he : GV.g [GV.s d[i].1, GV.s d[i].2] = ent d[i] := rfl
    refine tree_lim rfl rfl ?_
    simp [h, hlt, he, hp, hb, hw, ih]
theorem key74 (d : List Ent) (hf : few12 d = true) : TT.lim 45 [.l (d.map ent)] = some [.s (keyF d)] := by
  unfold few12 at hf
  rw [Bool.and_eq_true, decide_eq_true_iff] at hf
  have k := put75 d.length (by omega)
  have l1 := vput_len (n := d.length) (by omega)
  have w1 := wrapu64 (n := (d.length : Int)) (by omega) (by omega)
  have h11 : TT.lim 48 [.s (vput d.length), .l (d.map ent), .i .i64 d.length, .i .i64 0] = _ := loop77 d hf.1 hf.2 d.length 0 (vput d.length) (by omega) (by omega)
  rw [List.drop_zero] at h11
  refine fn_lim rfl rfl ?_ rfl
  unfold keyF
  generalize d.flatMap entPut = F at *
  simp [w1, k, h11]
theorem key_len {d : List Ent} (hf : few12 d = true) : (keyF d).length ≤ 30000 := by
  unfold few12 at hf
  rw [Bool.and_eq_true, decide_eq_true_iff] at hf
  have l1 := vput_len (n := d.length) (by omega)
  have := flat_len620 d hf.1
  unfold keyF
  simp only [List.length_append]; omega
theorem less79 (a b : List UInt8) (ha : a.length ≤ 140737488351232) (hb : b.length ≤ 140737488351232) : TT.lim 50 [.s a, .s b] = some [.b (Op.bytesLess a b)] := by
  have k := cmp71 (a, []) (b, []) ⟨ha, by simp⟩ ⟨hb, by simp⟩
  have e1 : GV.g [.s a, .s []] = ent (a, []) := rfl
  have e2 : GV.g [.s b, .s []] = ent (b, []) := rfl
  have hc : decide (cmpE (a, []) (b, []) < 0) = Op.bytesLess a b := by
    unfold cmpE
    cases h : Op.bytesLess a b with
    | true => simp
    | false =>
      simp only [Bool.false_eq_true, if_false]
      rw [if_neg (by simp [Op.bytesLess])]
      split <;> rfl
  refine fn_lim rfl rfl ?_ rfl
  simp [e1, e2, k, hc]
theorem loop60 (t : List Row) (ht : Rows t) (hf : Few t) (h256 : t.length ≤ 256) : ∀ m i : Nat, i + m = t.length →
    TT.lim 57 [.l (t.map row), .i .i64 t.length, .i .i64 i] = some (tagged (chkR (if h : 0 < i then (t[i - 1]?).map K else none) (t.drop i)))
  | 0, i, hi => by
    have h0 : t.drop i = [] := List.drop_eq_nil_of_le (by omega)
    have h : ¬ ((i : Int) < t.length) := by omega
    refine tree_lim rfl rfl ?_
    simp [h, h0, chkR, tagged]
  | m + 1, i, hi => by
    have hlt : i < t.length := by omega
    have hr := ht.2 t[i] (List.getElem_mem hlt)
    have fr := hf t[i] (List.getElem_mem hlt)
    have k15 := rowchk61 t[i] hr.1
    have k6 := key74 t[i].1 fr
    have hrow : GV.g [.l (t[i].1.map ent), .i .u64 t[i].2] = row t[i] := rfl
    have ih : TT.lim 57 [.l (t.map row), .i .i64 t.length, .i .i64 ((i : Int) + 1)] = _ := loop60 t ht hf h256 m (i + 1) (by omega)
    have hpk : (if h : 0 < i + 1 then (t[i + 1 - 1]?).map K else none) = some (K t[i]) := by simp [hlt]
    rw [hpk] at ih
    rw [List.drop_eq_getElem_cons hlt]
    have h : ((i : Int) < t.length) := by omega
    have hw := wrap64 (n := (i : Int) + 1) (by omega) (by omega)
    by_cases h1 : rowChk t[i] = 0
    rotate_left
    · have hc : ∀ p, chkR p (t[i] :: t.drop (i + 1)) = rowChk t[i] := fun p => by unfold chkR; rw [if_pos h1]
      rw [hc]
      have ht1 : tagged (rowChk t[i]) = [.i .i64 0, .i .i64 (rowChk t[i])] := by unfold tagged; rw [if_neg h1]
      rw [ht1]
      refine tree_lim rfl rfl ?_
      simp [-List.getElem_cons_drop, h, hlt, hrow, k15, h1]
    by_cases h0 : i = 0
    · subst h0
      have hc : chkR (if h : 0 < 0 then (t[0 - 1]?).map K else none) (t[0] :: t.drop (0 + 1)) = chkR (some (K t[0])) (t.drop (0 + 1)) := by
        conv => lhs; unfold chkR
        simp [h1]
      rw [hc]
      generalize tagged (chkR (some (K t[0])) (t.drop (0 + 1))) = out at *
      simp only [Int.natCast_zero, Int.zero_add] at hw ih
      have hn : (0 : Int) < (t.length : Int) := by omega
      refine tree_lim rfl rfl ?_
      simp [-List.getElem_cons_drop, h, hlt, hn, hrow, k15, h1, k6, hw, ih]
    · have hi0 : 0 < i := by omega
      have hi1 : i - 1 < t.length := by omega
      have hi0' : (0 : Int) < (i : Int) := by omega
      have hw2 := wrap64 (n := (i : Int) - 1) (by omega) (by omega)
      have ht2 : ((i : Int) - 1).toNat = i - 1 := by omega
      have hnl : (1 : Int) ≤ (i : Int) := by omega
      have hge : (0 : Int) ≤ (i : Int) - 1 := by omega
      have fp := hf t[i - 1] (List.getElem_mem hi1)
      have k7 := key74 t[i - 1].1 fp
      have kl := less79 (keyF t[i - 1].1) (keyF t[i].1) (by have := key_len fp; omega) (by have := key_len fr; omega)
      have hp : (if h : 0 < i then (t[i - 1]?).map K else none) = some (K t[i - 1]) := by simp [hi0, hi1]
      rw [hp]
      have hc : chkR (some (K t[i - 1])) (t[i] :: t.drop (i + 1)) = if K t[i] = K t[i - 1] then 14 else if Op.bytesLess (K t[i]) (K t[i - 1]) = true then 7 else chkR (some (K t[i])) (t.drop (i + 1)) := by
        conv => lhs; unfold chkR
        rw [if_neg (by simp [h1])]
      rw [hc]
      generalize chkR (some (K t[i])) (t.drop (i + 1)) = out at *
      by_cases h2 : keyF t[i].1 = keyF t[i - 1].1
      · rw [if_pos h2]
        have h2' : (keyF t[i - 1].1 = keyF t[i].1) = True := eq_true h2.symm
        refine tree_lim rfl rfl ?_
        simp [-List.getElem_cons_drop, h, hlt, hrow, k15, h1, k6, hi0', hi0, hw2, ht2, hnl, hge, hi1, k7, h2', tagged]
      · rw [if_neg h2]
        have h2' : ¬ keyF t[i - 1].1 = keyF t[i].1 := fun e => h2 e.symm
        by_cases h3 : keyF t[i].1 < keyF t[i - 1].1
        · rw [if_pos ((bl_iff _ _).2 h3)]
          rw [(bl_not _ _).2 fun h => List.lt_irrefl _ (List.lt_trans h h3)] at kl
          refine tree_lim rfl rfl ?_
          simp [-List.getElem_cons_drop, h, hlt, hrow, k15, h1, k6, hi0', hi0, hw2, ht2, hnl, hge, hi1, k7, h2', kl, tagged]
        · rw [if_neg fun h => h3 ((bl_iff _ _).1 h)]
          have h4 : keyF t[i - 1].1 < keyF t[i].1 := by
            rcases List.le_iff_lt_or_eq.1 (List.not_lt.1 h3) with h | h
            · exact h
            · exact absurd h h2'
          rw [(bl_iff _ _).2 h4] at kl
          refine tree_lim rfl rfl ?_
          simp [-List.getElem_cons_drop, h, hlt, hrow, k15, h1, k6, hi0', hi0, hw2, ht2, hnl, hge, hi1, k7, h2', kl, hw, ih]
theorem check59 (t : List Row) (ht : Rows t) (hf : Few t) : TT.lim 56 [.l (t.map row)] = some [.i .i64 (checkT t)] := by
  unfold checkT
  by_cases h1 : 256 < t.length
  · have h1' : (256 : Int) < (t.length : Int) := by omega
    refine fn_lim rfl rfl ?_ rfl
    simp [h1, h1']
  · have h1' : ¬ (256 : Int) < (t.length : Int) := by omega
    have h38 : TT.lim 57 [.l (t.map row), .i .i64 t.length, .i .i64 0] = _ := loop60 t ht hf (by omega) t.length 0 (by omega)
    rw [List.drop_zero] at h38
    have hp : (if h : 0 < 0 then (t[0 - 1]?).map K else none) = none := rfl
    rw [hp] at h38
    refine fn_lim rfl rfl ?_ rfl
    by_cases h2 : chkR none t = 0
    · simp only [tagged, h2, if_true] at h38
      simp [h1, h1', h38, h2]
    · simp only [tagged, h2, if_false] at h38
      simp [h1, h1', h38, h2]
def getT (t : List Row) (k : List UInt8) : Option Int := (t.find? fun r => decide (K r = k)).map (·.2)
theorem val_get : ∀ (t : List Row) (k : List UInt8), val t k = (getT t k).getD 0
  | [], _ => rfl
  | r :: t, k => by
    unfold val getT
    rw [val_get t k]
    by_cases h : K r = k
    · simp [h]
    · simp [h, getT]
def outG : Option Int → List GV
  | some n => [.i .i64 0, .i .u64 n]
  | none => [.i .i64 1]
theorem loop83 (t : List Row) (d : List Ent) (ht : t.length ≤ 1000) (hf : Few t) (hd : few12 d = true) : ∀ m i : Nat, i + m = t.length → TT.lim 69 [.l (d.map ent), .l (t.map row), .i .i64 t.length, .i .i64 i] = some (outG (getT (t.drop i) (keyF d)))
  | 0, i, hi => by
    have h0 : t.drop i = [] := List.drop_eq_nil_of_le (by omega)
    have h : ¬ ((i : Int) < t.length) := by omega
    refine tree_lim rfl rfl ?_
    simp [h, h0, getT, outG]
  | m + 1, i, hi => by
    have hlt : i < t.length := by omega
    have ih : TT.lim 69 [.l (d.map ent), .l (t.map row), .i .i64 t.length, .i .i64 ((i : Int) + 1)] = _ := loop83 t d ht hf hd m (i + 1) (by omega)
    have k1 := key74 t[i].1 (hf _ (List.getElem_mem hlt))
    have k2 := key74 d hd
    have h : ((i : Int) < t.length) := by omega
    have hw := wrap64 (n := (i : Int) + 1) (by omega) (by omega)
    have hc : getT (t.drop i) (keyF d) = if keyF t[i].1 = keyF d then some t[i].2 else getT (t.drop (i + 1)) (keyF d) := by
      rw [List.drop_eq_getElem_cons hlt]
      unfold getT
      rw [List.find?_cons]
      by_cases e : keyF t[i].1 = keyF d
      · simp [e]
      · simp [e]
    rw [hc]
    generalize getT (t.drop (i + 1)) (keyF d) = out at *
    refine tree_lim rfl rfl ?_
    by_cases e : keyF t[i].1 = keyF d
    · rw [if_pos e]
      have e' : (keyF t[i].1 = keyF d) = True := eq_true e
      clear e
      simp [h, hlt, k1, k2, e', outG]
    · rw [if_neg e]
      simp [h, hlt, k1, k2, e, hw, ih]
theorem get82 (t : List Row) (d : List Ent) (ht : t.length ≤ 1000) (hf : Few t) (hd : few12 d = true) : TT.lim 68 [.l (t.map row), .l (d.map ent)] = some [.i .u64 (val t (keyF d))] := by
  have k : TT.lim 69 [.l (d.map ent), .l (t.map row), .i .i64 t.length, .i .i64 0] = _ := loop83 t d ht hf hd t.length 0 (by omega)
  rw [List.drop_zero] at k
  rw [val_get]
  refine fn_lim rfl rfl ?_ rfl
  cases hg : getT t (keyF d) <;> rw [hg] at k <;> simp only [outG] at k <;> simp [k]
def atLF (t b : List Row) : Bool := b.all fun r => decide (r.2 ≤ val t (K r))
theorem loop81 (t b : List Row) (ht : t.length ≤ 1000) (hf : Few t) (hb : b.length ≤ 1000) (fb : Few b) : ∀ m i : Nat, i + m = b.length → TT.lim 74 [.l (t.map row), .l (b.map row), .i .i64 b.length, .i .i64 i] = some (if atLF t (b.drop i) = true then [.i .i64 1] else [.i .i64 0])
  | 0, i, hi => by
    have h0 : b.drop i = [] := List.drop_eq_nil_of_le (by omega)
    have h : ¬ ((i : Int) < b.length) := by omega
    refine tree_lim rfl rfl ?_
    simp [h, h0, atLF]
  | m + 1, i, hi => by
    have hlt : i < b.length := by omega
    have ih : TT.lim 74 [.l (t.map row), .l (b.map row), .i .i64 b.length, .i .i64 ((i : Int) + 1)] = _ := loop81 t b ht hf hb fb m (i + 1) (by omega)
    have k1 := get82 t b[i].1 ht hf (fb _ (List.getElem_mem hlt))
    have h : ((i : Int) < b.length) := by omega
    have hw := wrap64 (n := (i : Int) + 1) (by omega) (by omega)
    have hc : atLF t (b.drop i) = (decide (b[i].2 ≤ val t (keyF b[i].1)) && atLF t (b.drop (i + 1))) := by
      rw [List.drop_eq_getElem_cons hlt]; rfl
    rw [hc]
    generalize atLF t (b.drop (i + 1)) = out at *
    refine tree_lim rfl rfl ?_
    by_cases e : val t (keyF b[i].1) < b[i].2
    · have e' : ¬ b[i].2 ≤ val t (keyF b[i].1) := by omega
      simp [h, hlt, k1, e, e']
    · have e' : b[i].2 ≤ val t (keyF b[i].1) := by omega
      simp [h, hlt, k1, e, e', hw, ih]
theorem atLeast80 (t b : List Row) (ht : t.length ≤ 1000) (hf : Few t) (hb : b.length ≤ 1000) (fb : Few b) : TT.lim 73 [.l (t.map row), .l (b.map row)] = some [.b (atLF t b)] := by
  have k : TT.lim 74 [.l (t.map row), .l (b.map row), .i .i64 b.length, .i .i64 0] = _ := loop81 t b ht hf hb fb b.length 0 (by omega)
  rw [List.drop_zero] at k
  refine fn_lim rfl rfl ?_ rfl
  cases hg : atLF t b <;> rw [hg] at k <;> simp at k <;> simp [k]
theorem atLF_eq {t b : List Row} (ht : Tb t) (hb : Tb b) : atLF t b = atL t b := by
  rw [Bool.eq_iff_iff, atL_iff _ _ ht.rise hb.rise]
  unfold atLF
  rw [List.all_eq_true]
  constructor
  · intro h r hr
    have h1 := h r hr
    simp only [decide_eq_true_iff] at h1
    have h2 := (hb.pos r hr).1
    obtain ⟨s, hs, e1, e2⟩ := val_pos ht.pos (k := K r) (by omega)
    exact ⟨s, hs, e1, by omega⟩
  · intro h r hr
    obtain ⟨s, hs, e1, e2⟩ := h r hr
    simp only [decide_eq_true_iff]
    rw [← e1, val_mem ht.rise s hs]; exact e2
theorem loop99 (a b : List Row) (i : Nat) (ha : i < a.length) (hb : i < b.length) (hl : a[i].1.length = b[i].1.length) (h40 : a[i].1.length ≤ 40) (x3 x4 x5 x7 x8 x9 : GV) : ∀ m j : Nat, j + m = a[i].1.length →
    TT.lim 53 [.l (a.map row), .l (b.map row), .i .i64 i, x3, x4, x5, .i .i64 a[i].1.length, x7, x8, x9, .i .i64 j] = some (if a[i].1.drop j = b[i].1.drop j then [.i .i64 1] else [.i .i64 0])
  | 0, j, hj => by
    have h0 : a[i].1.drop j = [] := List.drop_eq_nil_of_le (by omega)
    have h1 : b[i].1.drop j = [] := List.drop_eq_nil_of_le (by omega)
    have h : ¬ ((j : Int) < a[i].1.length) := by omega
    refine tree_lim rfl rfl ?_
    simp [h, h0, h1]
  | m + 1, j, hj => by
    have hla : j < a[i].1.length := by omega
    have hlb : j < b[i].1.length := by omega
    have ih : TT.lim 53 [.l (a.map row), .l (b.map row), .i .i64 i, x3, x4, x5, .i .i64 a[i].1.length, x7, x8, x9, .i .i64 ((j : Int) + 1)] = _ := loop99 a b i ha hb hl h40 x3 x4 x5 x7 x8 x9 m (j + 1) (by omega)
    have h : ((j : Int) < a[i].1.length) := by omega
    have hw := wrap64 (n := (j : Int) + 1) (by omega) (by omega)
    have ke := eqGs_ent a[i].1[j] b[i].1[j]
    have hc : (a[i].1.drop j = b[i].1.drop j) = (a[i].1[j] = b[i].1[j] ∧ a[i].1.drop (j + 1) = b[i].1.drop (j + 1)) := by
      rw [List.drop_eq_getElem_cons hla, List.drop_eq_getElem_cons hlb, List.cons.injEq]
    simp only [hc]
    by_cases e : a[i].1[j] = b[i].1[j]
    · have e' : (a[i].1[j] = b[i].1[j]) = True := eq_true e
      rw [decide_eq_true e] at ke
      clear e hc
      simp only [e', true_and]
      refine tree_lim rfl rfl ?_
      simp [h, ha, hb, hla, hlb, ke, hw, ih]
    · rw [decide_eq_false e] at ke
      rw [if_neg fun h => e h.1]
      clear hc
      refine tree_lim rfl rfl ?_
      simp [h, ha, hb, hla, hlb, ke]
theorem loop98 (a b : List Row) (hl : a.length = b.length) (hal : a.length ≤ 1000) (fa : Few a) : ∀ m i : Nat, i + m = a.length →
    TT.lim 52 [.l (a.map row), .l (b.map row), .i .i64 a.length, .i .i64 i] = some (if a.drop i = b.drop i then [.i .i64 1] else [.i .i64 0])
  | 0, i, hi => by
    have h0 : a.drop i = [] := List.drop_eq_nil_of_le (by omega)
    have h1 : b.drop i = [] := List.drop_eq_nil_of_le (by omega)
    have h : ¬ ((i : Int) < a.length) := by omega
    refine tree_lim rfl rfl ?_
    simp [h, h0, h1]
  | m + 1, i, hi => by
    have hla : i < a.length := by omega
    have hlb : i < b.length := by omega
    have ih : TT.lim 52 [.l (a.map row), .l (b.map row), .i .i64 a.length, .i .i64 ((i : Int) + 1)] = _ := loop98 a b hl hal fa m (i + 1) (by omega)
    have h : ((i : Int) < a.length) := by omega
    have hw := wrap64 (n := (i : Int) + 1) (by omega) (by omega)
    have h40 := few40 (fa _ (List.getElem_mem hla))
    have hc : (a.drop i = b.drop i) = (a[i] = b[i] ∧ a.drop (i + 1) = b.drop (i + 1)) := by
      rw [List.drop_eq_getElem_cons hla, List.drop_eq_getElem_cons hlb, List.cons.injEq]
    simp only [hc]
    have hpe : (a[i] = b[i]) = (a[i].1 = b[i].1 ∧ a[i].2 = b[i].2) := propext Prod.ext_iff
    clear hc
    by_cases e2 : a[i].2 = b[i].2
    rotate_left
    · rw [if_neg fun h => e2 (by rw [h.1])]
      clear hpe
      refine tree_lim rfl rfl ?_
      simp [h, hla, hlb, e2]
    by_cases e3 : a[i].1.length = b[i].1.length
    rotate_left
    · rw [if_neg fun h => e3 (by rw [h.1])]
      have e2' : (a[i].2 = b[i].2) = True := eq_true e2
      clear hpe e2
      have e3' : ¬ (a[i].1.length : Int) = (b[i].1.length : Int) := by omega
      refine tree_lim rfl rfl ?_
      simp [h, hla, hlb, e2', e3, e3']
    have k := loop99 a b i hla hlb e3 h40 (.i .i64 a.length) (row a[i]) (.l (a[i].1.map ent)) (row b[i]) (.l (b[i].1.map ent)) (.i .i64 b[i].1.length) a[i].1.length 0 (by omega)
    rw [List.drop_zero, List.drop_zero] at k
    simp only [Int.natCast_zero] at k
    have e2' : (a[i].2 = b[i].2) = True := eq_true e2
    have e3' : ((a[i].1.length : Int) = (b[i].1.length : Int)) = True := eq_true (by omega)
    have e3'' : (a[i].1.length = b[i].1.length) = True := eq_true e3
    by_cases e1 : a[i].1 = b[i].1
    · rw [if_pos e1] at k
      have hc2 : (a[i] = b[i]) = True := eq_true (Prod.ext e1 e2)
      simp only [hc2, true_and]
      clear hpe e2 e3 e1 hc2
      refine tree_lim rfl rfl ?_
      simp [h, hla, hlb, e2', e3', e3'', k, hw, ih]
    · rw [if_neg e1] at k
      rw [if_neg fun h => e1 (by rw [h.1])]
      clear hpe e2 e3
      refine tree_lim rfl rfl ?_
      simp [h, hla, hlb, e2', e3', e3'', k]
theorem same97 (a b : List Row) (hal : a.length ≤ 1000) (fa : Few a) : TT.lim 51 [.l (a.map row), .l (b.map row)] = some [.b (decide (a = b))] := by
  by_cases hl : a.length = b.length
  · have k : TT.lim 52 [.l (a.map row), .l (b.map row), .i .i64 a.length, .i .i64 0] = _ := loop98 a b hl hal fa a.length 0 (by omega)
    rw [List.drop_zero, List.drop_zero] at k
    have hl' : ((a.length : Int) = (b.length : Int)) = True := eq_true (by omega)
    have hl'' : (a.length = b.length) = True := eq_true hl
    clear hl
    by_cases e : a = b
    · rw [if_pos e] at k
      rw [decide_eq_true e]
      clear e
      refine fn_lim rfl rfl ?_ rfl
      simp [hl', hl'', k]
    · rw [if_neg e] at k
      rw [decide_eq_false e]
      refine fn_lim rfl rfl ?_ rfl
      simp [hl', hl'', k]
  · rw [decide_eq_false fun e => hl (by rw [e])]
    have hl' : ¬ (a.length : Int) = (b.length : Int) := by omega
    refine fn_lim rfl rfl ?_ rfl
    simp [hl, hl']
def out94 (o : List Row) (i : Nat) (r : Row) (x y z : GV) : List GV := match o[i]? with
  | some s => [.i .i64 0, .i .i64 i, row s, .l (s.1.map ent), .s (keyF s.1), .s (keyF r.1)]
  | none => [.i .i64 1, .i .i64 i]
theorem loop94 (o : List Row) (ho : o.length ≤ 1000) (hf : Few o) (r : Row) (fr : few12 r.1 = true) (x y z : GV) : ∀ m i : Nat, i + m = o.length →
    TT.lim 44 [.l (o.map row), .i .i64 i, x, y, z, .l (r.1.map ent), .i .u64 r.2] = some (out94 o (i + adv (K r) (o.drop i)) r x y z)
  | 0, i, hi => by
    have h0 : o.drop i = [] := List.drop_eq_nil_of_le (by omega)
    have h1 : o[i]? = none := List.getElem?_eq_none (by omega)
    have h : ¬ ((i : Int) < o.length) := by omega
    refine tree_lim rfl rfl ?_
    simp [h, h0, adv, out94, h1]
  | m + 1, i, hi => by
    have hlt : i < o.length := by omega
    have ih : TT.lim 44 [.l (o.map row), .i .i64 ((i : Int) + 1), x, y, z, .l (r.1.map ent), .i .u64 r.2] = _ := loop94 o ho hf r fr x y z m (i + 1) (by omega)
    have fo := hf _ (List.getElem_mem hlt)
    have k6 := key74 o[i].1 fo
    have k7 := key74 r.1 fr
    have kl := less79 (keyF o[i].1) (keyF r.1) (by have := key_len fo; omega) (by have := key_len fr; omega)
    have hd : adv (K r) (o.drop i) = if Op.bytesLess (K o[i]) (K r) = true then adv (K r) (o.drop (i + 1)) + 1 else 0 := by rw [List.drop_eq_getElem_cons hlt]; rfl
    have h : ((i : Int) < o.length) := by omega
    have hw := wrap64 (n := (i : Int) + 1) (by omega) (by omega)
    rw [hd]
    cases hb : Op.bytesLess (K o[i]) (K r) with
    | true =>
      rw [show Op.bytesLess (keyF o[i].1) (keyF r.1) = true from hb] at kl
      rw [if_pos rfl, show i + (adv (K r) (o.drop (i + 1)) + 1) = i + 1 + adv (K r) (o.drop (i + 1)) by omega]
      refine tree_lim rfl rfl ?_
      simp [h, hlt, k6, k7, kl, hw, ih]
    | false =>
      rw [show Op.bytesLess (keyF o[i].1) (keyF r.1) = false from hb] at kl
      have h1 : o[i]? = some o[i] := List.getElem?_eq_getElem hlt
      rw [if_neg (by simp), Nat.add_zero]
      refine tree_lim rfl rfl ?_
      simp [h, hlt, k6, k7, kl, out94]
def putR (o : List Row) (r : Row) : List Row := o.take (adv (K r) o) ++ r :: o.drop (adv (K r) o)
def insR (o : List Row) (r : Row) : Option (List Row) := match o[adv (K r) o]? with
  | some s => if K s = K r then none else some (putR o r)
  | none => some (putR o r)
def ofF : List Row → List Row → Option (List Row)
  | o, [] => some o
  | o, r :: l => (insR o r).bind fun o' => ofF o' l
def outO (l : List Row) : Option (List Row) → List GV
  | some t => [.i .i64 1, .l (t.map row)]
  | none => [.i .i64 0]
theorem lsub_lo (l : List Row) (i : Nat) (h : i ≤ l.length) : lsub3 2 (some (.l (l.map row))) (some (.i .i64 0)) (some (.i .i64 i)) = some (.l ((l.take i).map row)) := by
  rw [lsub3_i, if_pos ⟨by omega, by omega, by simpa using h, by simp [row_cells]⟩]
  simp [List.map_take]
theorem lsub_hi (l : List Row) (i : Nat) (h : i ≤ l.length) : lsub3 2 (some (.l (l.map row))) (some (.i .i64 i)) (some (.i .i64 l.length)) = some (.l ((l.drop i).map row)) := by
  rw [lsub3_i, if_pos ⟨by omega, by omega, by simp, by simp [row_cells]⟩]
  have : List.take l.length (l.map row) = l.map row := List.take_of_length_le (by simp)
  simp [this, List.map_drop]
theorem ok_all (l : List Row) : (l.map row).all (GV.elemOk 2) = true := by
  rw [List.all_eq_true]; intro x hx; obtain ⟨r, _, rfl⟩ := List.mem_map.1 hx; rfl
theorem app_rows (a b : List Row) (h : a.length + b.length ≤ 2000) : app2 2 32 (some (.l (a.map row))) (some (.l (b.map row))) = some (.l ((a ++ b).map row)) := by
  rw [app2_l, if_pos ⟨ok_all b, by simp; omega, by simp; omega⟩, List.map_append]
theorem app_nil (a : List Row) (h : a.length ≤ 2000) : app2 2 32 (some (.l [])) (some (.l (a.map row))) = some (.l (a.map row)) := app_rows [] a (by simpa using h)
theorem app_one (a : List Row) (r : Row) (h : a.length ≤ 1900) : app2 2 32 (some (.l (a.map row))) (some (.l [row r])) = some (.l ((a ++ [r]).map row)) := app_rows a [r] (by simp; omega)
theorem putR_eq (o : List Row) (r : Row) : o.take (adv (K r) o) ++ [r] ++ o.drop (adv (K r) o) = putR o r := by unfold putR; simp
theorem putR_len (o : List Row) (r : Row) : (putR o r).length = o.length + 1 := by
  have := adv_le (K r) o
  unfold putR; simp; omega
theorem putR_mem {o : List Row} {r x : Row} : x ∈ putR o r ↔ x = r ∨ x ∈ o := by
  unfold putR
  constructor
  · intro h
    rcases List.mem_append.1 h with h | h
    · exact .inr (List.mem_of_mem_take h)
    · rcases List.mem_cons.1 h with h | h
      · exact .inl h
      · exact .inr (List.mem_of_mem_drop h)
  · rintro (rfl | h)
    · simp
    · rw [← List.take_append_drop (adv (K r) o) o] at h
      rcases List.mem_append.1 h with h | h
      · exact List.mem_append.2 (.inl h)
      · exact List.mem_append.2 (.inr (List.mem_cons_of_mem _ h))
set_option maxHeartbeats 4000000 in
theorem loop93 (l : List Row) (hl : l.length ≤ 300) (fl : Few l) : ∀ (m i : Nat) (o : List Row), i + m = l.length → o.length = i → Few o →
    TT.lim 43 [.l (o.map row), .l (l.map row), .i .i64 l.length, .i .i64 i] = some (outO l (ofF o (l.drop i)))
  | 0, i, o, hi, hoi, fo => by
    have h0 : l.drop i = [] := List.drop_eq_nil_of_le (by omega)
    have h : ¬ ((i : Int) < l.length) := by omega
    refine tree_lim rfl rfl ?_
    simp [h, h0, ofF, outO]
  | m + 1, i, o, hi, hoi, fo => by
    have hlt : i < l.length := by omega
    have fr := fl _ (List.getElem_mem hlt)
    have k94 : TT.lim 44 [.l (o.map row), .i .i64 0, .l (l.map row), .i .i64 l.length, .i .i64 i, .l (l[i].1.map ent), .i .u64 l[i].2] = _ := loop94 o (by omega) fo l[i] fr (.l (l.map row)) (.i .i64 l.length) (.i .i64 i) o.length 0 (by omega)
    rw [Nat.zero_add, List.drop_zero] at k94
    have ih : TT.lim 43 [.l ((putR o l[i]).map row), .l (l.map row), .i .i64 l.length, .i .i64 ((i : Int) + 1)] = _ := loop93 l hl fl m (i + 1) (putR o l[i]) (by omega) (by rw [putR_len]; omega) (fun x hx => by
      rcases putR_mem.1 hx with rfl | hx
      · exact fr
      · exact fo x hx)
    have hal := adv_le (K l[i]) o
    have hc : ofF o (l.drop i) = (insR o l[i]).bind fun o' => ofF o' (l.drop (i + 1)) := by rw [List.drop_eq_getElem_cons hlt]; rfl
    rw [hc]
    have hrow : GV.g [GV.l (l[i].1.map ent), GV.i .u64 l[i].2] = row l[i] := rfl
    have hpe := putR_eq o l[i]
    have s1 := lsub_lo o (adv (K l[i]) o) hal
    have s2 := lsub_hi o (adv (K l[i]) o) hal
    have a1 := app_nil (o.take (adv (K l[i]) o)) (by simp; omega)
    have a2 := app_one (o.take (adv (K l[i]) o)) l[i] (by simp; omega)
    have a3 := app_rows (o.take (adv (K l[i]) o) ++ [l[i]]) (o.drop (adv (K l[i]) o)) (by simp; omega)
    rw [hpe] at a3
    have h : ((i : Int) < l.length) := by omega
    have hw := wrap64 (n := (i : Int) + 1) (by omega) (by omega)
    have hins : insR o l[i] = match o[adv (K l[i]) o]? with
      | some s => if K s = K l[i] then none else some (putR o l[i])
      | none => some (putR o l[i]) := rfl
    rw [hins]
    generalize putR o l[i] = p at *
    generalize hA : adv (K l[i]) o = A at *
    clear hpe hins
    generalize hT : (o.take A ++ [l[i]]).map row = T at *
    generalize hU : (o.take A).map row = U at *
    generalize hV : (o.drop A).map row = V at *
    by_cases hAl : A < o.length
    · have h1 : o[A]? = some o[A] := List.getElem?_eq_getElem hAl
      have hAl' : (A : Int) < (o.length : Int) := by omega
      have foA := fo _ (List.getElem_mem hAl)
      have k6 := key74 o[A].1 foA
      have k7 := key74 l[i].1 fr
      simp only [out94, h1] at k94
      simp only [h1]
      by_cases e : keyF o[A].1 = keyF l[i].1
      · have e' : (keyF o[A].1 = keyF l[i].1) = True := eq_true e
        simp only [e', if_true]
        clear e
        refine tree_lim rfl rfl ?_
        simp [h, hlt, k94, hAl, hAl', k6, k7, e', outO]
      · rw [if_neg e]
        simp only [Option.bind_some]
        refine tree_lim rfl rfl ?_
        simp [-lsub3_i, -app2_l, h, hlt, k94, hAl, hAl', k6, k7, e, hrow, s1, s2, a1, a2, a3, hw, ih]
    · have h1 : o[A]? = none := List.getElem?_eq_none (by omega)
      have hAl' : ¬ (A : Int) < (o.length : Int) := by omega
      simp only [out94, h1] at k94
      simp only [h1, Option.bind_some]
      refine tree_lim rfl rfl ?_
      simp [-lsub3_i, -app2_l, h, hlt, k94, hAl, hAl', hrow, s1, s2, a1, a2, a3, hw, ih]
theorem putR_cons (x : Row) (o : List Row) (r : Row) : putR (x :: o) r = if Op.bytesLess (K x) (K r) = true then x :: putR o r else r :: x :: o := by
  have ha : adv (K r) (x :: o) = if Op.bytesLess (K x) (K r) = true then adv (K r) o + 1 else 0 := rfl
  unfold putR
  rw [ha]
  by_cases h : Op.bytesLess (K x) (K r) = true
  · simp [h]
  · simp [h]
theorem putR_rise {r : Row} : ∀ {o : List Row}, Rise o → (∀ s ∈ o, K s ≠ K r) → Rise (putR o r)
  | [], _, _ => by simp [putR, adv, Rise]
  | x :: o, ho, hk => by
    have ho' := List.pairwise_cons.1 ho
    rw [putR_cons]
    by_cases h : Op.bytesLess (K x) (K r) = true
    · rw [if_pos h]
      refine List.Pairwise.cons (fun y hy => ?_) (putR_rise ho'.2 fun s hs => hk s (by simp [hs]))
      rcases putR_mem.1 hy with rfl | hy
      · exact (bl_iff _ _).1 h
      · exact ho'.1 y hy
    · rw [if_neg h]
      have hlt : K r < K x := by
        rcases List.le_iff_lt_or_eq.1 (List.not_lt.1 fun e => h ((bl_iff _ _).2 e)) with e | e
        · exact e
        · exact absurd e.symm (hk x (by simp))
      refine List.Pairwise.cons (fun y hy => ?_) ho
      rcases List.mem_cons.1 hy with rfl | hy
      · exact hlt
      · exact List.lt_trans hlt (ho'.1 y hy)
theorem putR_perm (o : List Row) (r : Row) : (putR o r).Perm (r :: o) := by
  unfold putR
  refine List.perm_middle.trans ?_
  rw [List.take_append_drop]
theorem ofF_ok : ∀ (l o : List Row), Rise o → (∀ r ∈ l, ∀ s ∈ o, K s ≠ K r) → (l.map K).Nodup → ∃ t, ofF o l = some t ∧ Rise t ∧ t.Perm (o ++ l)
  | [], o, ho, _, _ => ⟨o, rfl, ho, by simp⟩
  | r :: l, o, ho, hk, hn => by
    rw [List.map_cons, List.nodup_cons] at hn
    have hi : insR o r = some (putR o r) := by
      unfold insR
      split
      · next s hs => rw [if_neg (hk r (by simp) s (List.mem_of_getElem? hs))]
      · rfl
    obtain ⟨t, h1, h2, h3⟩ := ofF_ok l (putR o r) (putR_rise ho (hk r (by simp))) (fun x hx s hs => by
      rcases putR_mem.1 hs with rfl | hs
      · intro e; exact hn.1 (List.mem_map.2 ⟨x, hx, e.symm⟩)
      · exact hk x (by simp [hx]) s hs) hn.2
    refine ⟨t, by unfold ofF; rw [hi]; exact h1, h2, h3.trans ?_⟩
    refine ((putR_perm o r).append_right l).trans ?_
    simpa using (List.perm_middle (a := r) (l₁ := o) (l₂ := l)).symm
theorem loop92 (l : List Row) (hl : l.length ≤ 1000) (hc : ∀ r ∈ l, Ents r.1 ∧ rowChk r = 0) : ∀ m i : Nat, i + m = l.length → TT.lim 29 [.l (l.map row), .i .i64 l.length, .i .i64 i] = some [.i .i64 1]
  | 0, i, hi => by
    have h : ¬ ((i : Int) < l.length) := by omega
    refine tree_lim rfl rfl ?_
    simp [h]
  | m + 1, i, hi => by
    have hlt : i < l.length := by omega
    have hr := hc _ (List.getElem_mem hlt)
    have k := rowchk61 l[i] hr.1
    rw [hr.2] at k
    have hrow : GV.g [GV.l (l[i].1.map ent), GV.i .u64 l[i].2] = row l[i] := rfl
    have ih : TT.lim 29 [.l (l.map row), .i .i64 l.length, .i .i64 ((i : Int) + 1)] = _ := loop92 l hl hc m (i + 1) (by omega)
    have h : ((i : Int) < l.length) := by omega
    have hw := wrap64 (n := (i : Int) + 1) (by omega) (by omega)
    refine tree_lim rfl rfl ?_
    simp [h, hlt, hrow, k, hw, ih]
theorem of91 (l : List Row) (hl : l.length ≤ 1000) (fl : Few l) (hc : ∀ r ∈ l, Ents r.1 ∧ rowChk r = 0) (hn : (l.map K).Nodup) : ∃ t, Rise t ∧ t.Perm l ∧ TT.lim 28 [.l (l.map row)] = some (if 256 < l.length then [.l [], .i .i64 13] else [.l (t.map row), .i .i64 0]) := by
  obtain ⟨t, h1, h2, h3⟩ := ofF_ok l [] List.Pairwise.nil (by simp) hn
  rw [List.nil_append] at h3
  refine ⟨t, h2, h3, ?_⟩
  by_cases h256 : 256 < l.length
  · have h' : (256 : Int) < (l.length : Int) := by omega
    rw [if_pos h256]
    refine fn_lim rfl rfl ?_ rfl
    simp [h256, h']
  · have h' : ¬ (256 : Int) < (l.length : Int) := by omega
    rw [if_neg h256]
    have k1 : TT.lim 29 [.l (l.map row), .i .i64 l.length, .i .i64 0] = _ := loop92 l hl hc l.length 0 (by omega)
    have k2 : TT.lim 43 [.l [], .l (l.map row), .i .i64 l.length, .i .i64 0] = _ := loop93 l (by omega) fl l.length 0 [] (by omega) rfl (by intro r hr; simp at hr)
    rw [List.drop_zero, h1] at k2
    simp only [outO] at k2
    refine fn_lim rfl rfl ?_ rfl
    simp [h256, h', k1, k2]
theorem adv_at {k : List UInt8} : ∀ {o : List Row}, Rise o → (∃ s ∈ o, K s = k) → ∃ s, o[adv k o]? = some s ∧ K s = k
  | [], _, h => by obtain ⟨s, hs, _⟩ := h; cases hs
  | x :: o, ho, h => by
    have ho' := List.pairwise_cons.1 ho
    have ha : adv k (x :: o) = if Op.bytesLess (K x) k = true then adv k o + 1 else 0 := rfl
    rw [ha]
    obtain ⟨s, hs, e⟩ := h
    by_cases hb : Op.bytesLess (K x) k = true
    · rw [if_pos hb]
      have hlt := (bl_iff _ _).1 hb
      rcases List.mem_cons.1 hs with rfl | hs
      · rw [e] at hlt; exact absurd hlt (List.lt_irrefl _)
      · obtain ⟨u, h1, h2⟩ := adv_at ho'.2 ⟨s, hs, e⟩
        exact ⟨u, by simpa using h1, h2⟩
    · rw [if_neg hb]
      rcases List.mem_cons.1 hs with rfl | hs
      · exact ⟨s, rfl, e⟩
      · have := ho'.1 s hs
        rw [e] at this
        exact absurd ((bl_iff _ _).2 this) hb
theorem insR_some {o o' : List Row} {r : Row} (ho : Rise o) (h : insR o r = some o') : (∀ s ∈ o, K s ≠ K r) ∧ o' = putR o r := by
  unfold insR at h
  have hne : ∀ s, o[adv (K r) o]? = some s → K s ≠ K r := fun s hs e => by
    rw [hs] at h
    simp only [e, if_true] at h
    cases h
  refine ⟨fun s hs e => ?_, ?_⟩
  · obtain ⟨u, h1, h2⟩ := adv_at ho ⟨s, hs, e⟩
    exact hne u h1 h2
  · split at h
    · next s hs => rw [if_neg (hne s hs)] at h; exact (Option.some.inj h).symm
    · exact (Option.some.inj h).symm
theorem ofF_some : ∀ (l o : List Row) {t : List Row}, Rise o → ofF o l = some t → (∀ r ∈ l, ∀ s ∈ o, K s ≠ K r) ∧ (l.map K).Nodup
  | [], o, t, _, _ => ⟨fun r hr => (by cases hr), List.nodup_nil⟩
  | r :: l, o, t, ho, h => by
    have hc : ofF o (r :: l) = (insR o r).bind fun o' => ofF o' l := rfl
    rw [hc] at h
    cases hi : insR o r with
    | none => rw [hi] at h; cases h
    | some o' =>
      rw [hi] at h
      obtain ⟨h1, rfl⟩ := insR_some ho hi
      obtain ⟨h2, h3⟩ := ofF_some l (putR o r) (putR_rise ho h1) h
      refine ⟨fun x hx s hs => ?_, ?_⟩
      · rcases List.mem_cons.1 hx with rfl | hx
        · exact h1 s hs
        · exact h2 x hx s (putR_mem.2 (.inr hs))
      · rw [List.map_cons, List.nodup_cons]
        refine ⟨fun hm => ?_, h3⟩
        obtain ⟨x, hx, e⟩ := List.mem_map.1 hm
        exact h2 x hx r (putR_mem.2 (.inl rfl)) e.symm
theorem rofErr (l : List Row) (hl : l.length ≤ 1000) (he : ∀ r ∈ l, Ents r.1) : ∀ m i : Nat, i + m = l.length → TT.lim 29 [.l (l.map row), .i .i64 l.length, .i .i64 i] = some (if firstErr (l.drop i) = 0 then [.i .i64 1] else [.i .i64 0, .i .i64 (firstErr (l.drop i))])
  | 0, i, hi => by
    have h : ¬ ((i : Int) < l.length) := by omega
    rw [List.drop_eq_nil_of_le (by omega)]
    refine tree_lim rfl rfl ?_
    simp [h, firstErr]
  | m + 1, i, hi => by
    have hlt : i < l.length := by omega
    have k := rowchk61 l[i] (he _ (List.getElem_mem hlt))
    have hrow : GV.g [GV.l (l[i].1.map ent), GV.i .u64 l[i].2] = row l[i] := rfl
    have ih : TT.lim 29 [.l (l.map row), .i .i64 l.length, .i .i64 ((i : Int) + 1)] = _ := rofErr l hl he m (i + 1) (by omega)
    have hc : firstErr (l.drop i) = if rowChk l[i] = 0 then firstErr (l.drop (i + 1)) else rowChk l[i] := by rw [List.drop_eq_getElem_cons hlt]; rfl
    rw [hc]
    have h : ((i : Int) < l.length) := by omega
    have hw := wrap64 (n := (i : Int) + 1) (by omega) (by omega)
    by_cases e : rowChk l[i] = 0
    · rw [if_pos e]
      rw [e] at k
      refine tree_lim rfl rfl ?_
      simp [h, hlt, hrow, k, hw, ih]
    · rw [if_neg e, if_neg e]
      refine tree_lim rfl rfl ?_
      simp [h, hlt, hrow, k, e]
theorem rof_ok (l : List Row) (hl : l.length ≤ 300) (hr : Rows l) (fl : Few l) : TT.lim 28 [.l (l.map row)] = some [.l ((ofR l).1.map row), .i .i64 (ofR l).2] := by
  by_cases h1 : 256 < l.length
  · have h' : (256 : Int) < (l.length : Int) := by omega
    have e : ofR l = ([], 13) := by unfold ofR; rw [if_pos h1]
    rw [e]
    refine fn_lim rfl rfl ?_ rfl
    simp [h1, h']
  have h' : ¬ (256 : Int) < (l.length : Int) := by omega
  have k0 : TT.lim 29 [.l (l.map row), .i .i64 l.length, .i .i64 0] = _ := rofErr l (by omega) (fun r h => (hr.2 r h).1) l.length 0 (by omega)
  rw [List.drop_zero] at k0
  by_cases h2 : firstErr l = 0
  rotate_left
  · have e : ofR l = ([], firstErr l) := by unfold ofR; rw [if_neg h1, if_neg h2]
    rw [e]
    rw [if_neg h2] at k0
    refine fn_lim rfl rfl ?_ rfl
    simp [h1, h', k0]
  rw [if_pos h2] at k0
  by_cases hn : (l.map K).Nodup
  · obtain ⟨t, t1, t2, t3⟩ := of91 l (by omega) fl (fun r h => ⟨(hr.2 r h).1, (firstErr_iff l).1 h2 r h⟩) hn
    have e : (ofR l).2 = 0 := by unfold ofR; rw [if_neg h1, if_pos h2, (adj_iff l).2 hn]; rfl
    obtain ⟨r1, r2, -⟩ := ofR_rise e
    have et : t = (ofR l).1 := rise_eq t1 r1 (fun r h => r2.mem_iff.2 (t2.mem_iff.1 h)) (fun r h => t2.mem_iff.2 (r2.mem_iff.1 h))
    rw [t3, if_neg h1, et, e]
  · have e : ofR l = ([], 14) := by
      have : adjDup (sortR l) = true := by
        cases h : adjDup (sortR l) with
        | true => rfl
        | false => exact absurd ((adj_iff l).1 h) hn
      unfold ofR; rw [if_neg h1, if_pos h2, this]; rfl
    have k2 : TT.lim 43 [.l [], .l (l.map row), .i .i64 l.length, .i .i64 0] = _ := loop93 l hl fl l.length 0 [] (by omega) rfl (by intro r hr; simp at hr)
    have hN : ofF [] l = none := by
      cases h : ofF [] l with
      | none => rfl
      | some t => exact absurd (ofF_some l [] List.Pairwise.nil h).2 hn
    rw [List.drop_zero, hN] at k2
    simp only [outO] at k2
    rw [e]
    refine fn_lim rfl rfl ?_ rfl
    simp [h1, h', k0, k2]
theorem to_ok (l : List Row) (hl : l.length ≤ 300) (hf : Few l) : TT.lim 24 [.l (l.map row)] = some [.l (l.map row)] := by
  have k : TT.lim 25 [.l [], .l (l.map row), .i .i64 l.length, .i .i64 0] = _ := loop55 l hl hf l.length 0 [] (by omega) rfl
  rw [List.drop_zero, List.nil_append] at k
  refine fn_lim rfl rfl ?_ rfl
  simp [k]
theorem get_val : ∀ (t : List Row) (d : List Ent), (getR t d).getD 0 = val t (keyF d)
  | [], _ => rfl
  | r :: t, d => by
    unfold getR val
    by_cases h : r.1 = d
    · rw [if_pos h, if_pos (by unfold K; rw [h])]; rfl
    · rw [if_neg h, if_neg fun e => h (keyF_inj e)]
      exact get_val t d
theorem ofR_tb {l : List Row} (hr : Rows l) (fl : Few l) (e : (ofR l).2 = 0) : Tb (ofR l).1 := by
  obtain ⟨r1, r2, r3⟩ := ofR_rise e
  obtain ⟨-, c2, -⟩ := (ofR_ok l).1 e
  exact ⟨⟨by rw [r2.length_eq]; exact r3, r1, fun r h => c2 r (r2.mem_iff.1 h)⟩, ⟨by rw [r2.length_eq]; exact hr.1, fun r h => hr.2 r (r2.mem_iff.1 h)⟩, fun r h => fl r (r2.mem_iff.1 h)⟩
theorem ttEnts {g : GV} (h : (GTy.list true [.str, .str]).has g) : ∃ d : List Ent, Ents d ∧ g = .l (d.map ent) := by
  obtain ⟨xs, rfl, h3, h4⟩ := has_list h
  obtain ⟨d, hd, rfl⟩ : ∃ d : List Ent, (∀ x ∈ d, x.1.length ≤ 140737488351232 ∧ x.2.length ≤ 140737488351232) ∧ xs = d.map ent := list_map fun x hx => by
    obtain ⟨k1, k2⟩ := h4 x hx
    cases x <;> simp [GV.scalar] at k2
    obtain ⟨a, l, e1, a1, k1⟩ := hasL_cons k1
    obtain ⟨b, l, rfl, b1, k1⟩ := hasL_cons k1
    obtain rfl := hasL_nil k1
    obtain ⟨s, rfl, s1⟩ := has_str a1
    obtain ⟨u, rfl, u1⟩ := has_str b1
    simp only [cells_g] at e1
    subst e1
    exact ⟨(s, u), ⟨Nat.le_trans s1 (by decide), Nat.le_trans u1 (by decide)⟩, rfl⟩
  exact ⟨d, ⟨by have := Nat.le_trans h3 (by decide : reachBytes ≤ 140737488351232); simpa using this, hd⟩, rfl⟩
end W
end Go.Proofs.YtehcokoigbiciaaGreatDoor
