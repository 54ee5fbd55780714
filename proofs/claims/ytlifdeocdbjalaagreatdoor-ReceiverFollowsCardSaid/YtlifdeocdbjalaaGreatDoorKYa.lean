/- What the trees compute: plain laws. -/
import Derived.Test.YtlifdeocdbjalaaGreatDoorKYT
import Derived.Test.YtlifdeocdbjalaaGreatDoorAbsPl
import Derived.Test.YtlifdeocdbjalaaGreatDoorAbsGo
import Derived.Test.YtlifdeocdbjalaaGreatDoorAbsTold3
import Derived.Lib.TrimUEq
import Derived.Lib.MapLaws
namespace Go.Proofs.YtlifdeocdbjalaaGreatDoor
open Go Go.Abs
set_option linter.unusedSimpArgs false
set_option linter.unusedVariables false
set_option maxRecDepth 100000
namespace Y
theorem bytesLess_lt : ∀ a b : List UInt8, Op.bytesLess a b = decide (a < b)
 | _, [] => by simp [Op.bytesLess]
 | [], _ :: _ => by simp [Op.bytesLess]
 | a :: x, b :: y => by
  rw [Op.bytesLess, bytesLess_lt x y, Bool.eq_iff_iff]
  simp -implicitDefEqProofs [List.cons_lt_cons_iff]
/-- An entry: key and value. A row: its entries and its number. -/
abbrev Ent := List UInt8 × List UInt8
abbrev Row := List Ent × Int
def ent (x : Ent) : GV := .g [.s x.1, .s x.2]
def row (r : Row) : GV := .g [.l (r.1.map ent), .i .u64 r.2]
@[simp] theorem ent_cells (x : Ent) : (ent x).cells = [.s x.1, .s x.2] := rfl
@[simp] theorem row_cells (r : Row) : (row r).cells = [.l (r.1.map ent), .i .u64 r.2] := rfl
@[simp] theorem ent_scalar (x : Ent) : (ent x).scalar = false := rfl
@[simp] theorem row_scalar (r : Row) : (row r).scalar = false := rfl
/-- Texts and lists of no more than any machine bears. -/
def Ents (d : List Ent) : Prop := d.length ≤ 140737488351232 ∧ ∀ x ∈ d, x.1.length ≤ 140737488351232 ∧ x.2.length ≤ 140737488351232
def Rows (l : List Row) : Prop := l.length ≤ 140737488351232 ∧ ∀ r ∈ l, Ents r.1 ∧ 0 ≤ r.2 ∧ r.2 < 18446744073709551616
def fewE (x : Ent) : Bool := decide (x.1.length + x.2.length ≤ 600)
theorem loop5 (d : List Ent) (hd : Ents d) : ∀ m i : Nat, i + m = d.length → TT.lim 6 [.l (d.map ent), .i .i64 d.length, .i .i64 i] = some (if (d.drop i).all fewE = true then [.i .i64 1] else [.i .i64 0])
 | 0, i, hi => by
  have h0 : d.drop i = [] := List.drop_eq_nil_of_le (by omega)
  refine tree_lim rfl rfl ?_
  have h : ¬ ((i : Int) < d.length) := by omega
  simp -implicitDefEqProofs [h, h0]
 | m + 1, i, hi => by
  have hlt : i < d.length := by omega
  have ih : TT.lim 6 [.l (d.map ent), .i .i64 d.length, .i .i64 ((i : Int) + 1)] = _ := loop5 d hd m (i + 1) (by omega)
  refine tree_lim rfl rfl ?_
  have h : ((i : Int) < d.length) := by omega
  have hw := wrap64 (n := (i : Int) + 1) (by omega) (by have := hd.1; omega)
  have hx := hd.2 d[i] (List.getElem_mem hlt)
  have hw2 := wrap64 (n := (d[i].1.length : Int) + (d[i].2.length : Int)) (by omega) (by omega)
  have hda : (d.drop i).all fewE = (fewE d[i] && (d.drop (i + 1)).all fewE) := by rw [List.drop_eq_getElem_cons hlt, List.all_cons]
  by_cases hf : (600 : Int) < (d[i].1.length : Int) + (d[i].2.length : Int)
  ·have : fewE d[i] = false := by unfold fewE; simp; omega
   simp -implicitDefEqProofs [h, hlt, hw2, hf, hda, this]
  ·have : fewE d[i] = true := by unfold fewE; simp; omega
   rw [hda, this, Bool.true_and]
   simp -implicitDefEqProofs [h, hlt, hw, hw2, hf, ih]
def few12 (d : List Ent) : Bool := d.all fewE && decide (d.length ≤ 40)
theorem few4 (d : List Ent) (hd : Ents d) : TT.lim 5 [.l (d.map ent)] = some [.b (few12 d)] := by
 refine fn_lim rfl rfl ?_ rfl
 have h5 : TT.lim 6 [.l (d.map ent), .i .i64 d.length, .i .i64 0] = _ := loop5 d hd d.length 0 (by omega)
 rw [List.drop_zero] at h5
 cases hc : d.all fewE with
 | false => rw [hc] at h5; simp [h5, few12, hc]
 | true =>
  rw [hc] at h5; simp only [if_true] at h5
  have : (decide ((d.length : Int) ≤ 40)) = decide (d.length ≤ 40) := by rw [Bool.eq_iff_iff]; simp; omega
  simp -implicitDefEqProofs [h5, few12, hc, this]
def vput (n : Nat) : List UInt8 := if n < 128 then [UInt8.ofNat n] else UInt8.ofNat (n % 128 + 128) :: vput (n / 128)
termination_by n
decreasing_by omega
theorem vput_lt {n : Nat} (h : n < 128) : vput n = [UInt8.ofNat n] := by rw [vput, if_pos h]
theorem vput_ge {n : Nat} (h : ¬ n < 128) : vput n = UInt8.ofNat (n % 128 + 128) :: vput (n / 128) := by rw [vput, if_neg h]
theorem u8_inj {a b : Nat} (ha : a < 256) (hb : b < 256) (h : UInt8.ofNat a = UInt8.ofNat b) : a = b := by
 have := congrArg UInt8.toNat h
 simp at this
 omega
/-- No number's bytes begin another's. -/
theorem vput_inj : ∀ (n m : Nat) (x y : List UInt8), vput n ++ x = vput m ++ y → n = m ∧ x = y := by
 intro n
 induction n using Nat.strongRecOn with
 | _ n ih =>
  intro m x y h
  by_cases hn : n < 128 <;> by_cases hm : m < 128
  ·rw [vput_lt hn, vput_lt hm] at h
   simp only [List.cons_append, List.nil_append, List.cons.injEq] at h
   exact ⟨u8_inj (by omega) (by omega) h.1, h.2⟩
  ·rw [vput_lt hn, vput_ge hm] at h
   simp only [List.cons_append, List.nil_append, List.cons.injEq] at h
   have := u8_inj (by omega) (by omega) h.1
   omega
  ·rw [vput_ge hn, vput_lt hm] at h
   simp only [List.cons_append, List.nil_append, List.cons.injEq] at h
   have := u8_inj (by omega) (by omega) h.1
   omega
  ·rw [vput_ge hn, vput_ge hm] at h
   simp only [List.cons_append, List.cons.injEq] at h
   have h1 := u8_inj (by omega) (by omega) h.1
   obtain ⟨h2, h3⟩ := ih (n / 128) (by omega) (m / 128) x y h.2
   exact ⟨by omega, h3⟩
def vsize (n : Nat) : Nat := (vput n).length
theorem shr7 {n : Int} (h0 : 0 ≤ n) : n.fdiv (2 ^ (7 : Nat)) = n / 128 := by
 rw [Int.fdiv_eq_ediv_of_nonneg _ (by decide)]; rfl
theorem shr_u64 {n : Nat} : shG .shr .u64 (n : Int) 7 = some (.i .u64 ((n / 128 : Nat) : Int)) := by
 have : ((n : Int)).fdiv (2 ^ (7 : Nat)) = ((n / 128 : Nat) : Int) := by rw [shr7 (by omega)]; omega
 simp -implicitDefEqProofs [shG, IntKind.bits]
 exact this
theorem vsize_pos (n : Nat) : 0 < vsize n := by unfold vsize; rw [vput]; split <;> simp
theorem vsize_ge {n : Nat} (h : ¬ n < 128) : vsize n = vsize (n / 128) + 1 := by unfold vsize; rw [vput_ge h]; rfl
theorem vsize_le : ∀ (k n : Nat), 0 < k → n < 128 ^ k → vsize n ≤ k
 | 0, _, h, _ => by omega
 | k + 1, n, _, h => by
  by_cases hn : n < 128
  ·unfold vsize; rw [vput_lt hn]; simp
  ·rw [vsize_ge hn]
   cases k with
   | zero => simp at h; omega
   | succ k =>
    have : n / 128 < 128 ^ (k + 1) := by rw [Nat.pow_succ] at h; omega
    have := vsize_le (k + 1) (n / 128) (by omega) this
    omega
theorem vsize64 {n : Nat} (h : n < 18446744073709551616) : vsize n ≤ 10 := vsize_le 10 n (by omega) (by omega)
theorem loop9 : ∀ (n s : Nat), s + vsize n ≤ 1000 → n < 18446744073709551616 → TT.lim 10 [.i .u64 n, .i .i64 s] = some [.i .i64 0, .i .i64 ((s + vsize n - 1 : Nat) : Int)] := by
 intro n
 induction n using Nat.strongRecOn with
 | _ n ih =>
  intro s hs hn
  refine tree_lim rfl rfl ?_
  by_cases h : n < 128
  ·have h' : ¬ (128 : Int) ≤ n := by omega
   simp -implicitDefEqProofs [h', vsize, vput_lt h]
  ·have h' : (128 : Int) ≤ n := by omega
   have hv := vsize_ge h
   have hp := vsize_pos (n / 128)
   have hw := wrap64 (n := (s : Int) + 1) (by omega) (by omega)
   have ih' : TT.lim 10 [.i .u64 ((n / 128 : Nat) : Int), .i .i64 ((s : Int) + 1)] = _ := ih (n / 128) (by omega) (s + 1) (by omega) (by omega)
   have hn' : s + vsize n - 1 = s + 1 + vsize (n / 128) - 1 := by omega
   rw [hn']
   have h7 : shG .shr .u64 (n : Int) 7 = some (.i .u64 ((n / 128 : Nat) : Int)) := shr_u64
   generalize ((n / 128 : Nat) : Int) = q at h7 ih'
   simp -implicitDefEqProofs [h', hw, h7, ih']
theorem size8 (n : Nat) (hn : n < 18446744073709551616) : TT.lim 9 [.i .u64 n] = some [.i .i64 (vsize n)] := by
 have hp := vsize_pos n
 have h9 : TT.lim 10 [.i .u64 n, .i .i64 1] = _ := loop9 n 1 (by have := vsize64 hn; omega) hn
 rw [show 1 + vsize n - 1 = vsize n by omega] at h9
 refine fn_lim rfl rfl ?_ rfl
 simp -implicitDefEqProofs [h9]
/-- The bytes of a number, each with its high bit set. -/
def vraw : Nat → Nat → List Nat
 | 0, _ => []
 | k + 1, n => (n % 128 + 128) :: vraw k (n / 128)
def byteG (n : Nat) : GV := .i .u8 n
theorem and127 (n : Nat) (hn : n < 18446744073709551616) : intG .and .u64 (n : Int) 127 = some (.i .u64 ((n % 128 : Nat) : Int)) := by
 have h1 : ((BitVec.ofInt 64 (n : Int) &&& BitVec.ofInt 64 127).toNat : Nat) = n % 128 := by
  rw [BitVec.toNat_and, BitVec.toNat_ofInt, BitVec.toNat_ofInt]
  have e1 : ((n : Int) % ((2 ^ 64 : Nat) : Int)).toNat = n := by omega
  have e2 : ((127 : Int) % ((2 ^ 64 : Nat) : Int)).toNat = 2 ^ 7 - 1 := by decide
  rw [e1, e2, Nat.and_two_pow_sub_one_eq_mod]
 show some (GV.i .u64 (IntKind.u64.wrap (((BitVec.ofInt 64 (n : Int) &&& BitVec.ofInt 64 127).toNat : Nat) : Int))) = _
 rw [h1, wrapu64 (by omega) (by omega)]
theorem and127_8 (n : Nat) (hn : n < 256) : intG .and .u8 (n : Int) 127 = some (.i .u8 ((n % 128 : Nat) : Int)) := by
 have : ∀ x : Fin 256, IntKind.u8.wrap (((BitVec.ofInt IntKind.u8.bits ((x.val : Nat) : Int) &&& BitVec.ofInt IntKind.u8.bits 127).toNat : Nat) : Int) = ((x.val % 128 : Nat) : Int) := by decide +kernel
 show some (GV.i .u8 _) = some (GV.i .u8 _)
 exact congrArg (fun z => some (GV.i .u8 z)) (this ⟨n, hn⟩)
theorem or128 (n : Nat) (hn : n < 128) : intG .or .u8 (n : Int) 128 = some (.i .u8 ((n + 128 : Nat) : Int)) := by
 have : ∀ x : Fin 128, IntKind.u8.wrap (((BitVec.ofInt IntKind.u8.bits ((x.val : Nat) : Int) ||| BitVec.ofInt IntKind.u8.bits 128).toNat : Nat) : Int) = ((x.val + 128 : Nat) : Int) := by decide +kernel
 show some (GV.i .u8 _) = some (GV.i .u8 _)
 exact congrArg (fun z => some (GV.i .u8 z)) (this ⟨n, hn⟩)
theorem wrapu8 {n : Int} (h0 : 0 ≤ n) (h1 : n < 256) : IntKind.u8.wrap n = n := by
 have : IntKind.u8.wrap n = n % 256 := by simp [IntKind.wrap, IntKind.signed, IntKind.bits]
 rw [this]; omega
@[simp] theorem byteG_cells (n : Nat) : (byteG n).cells = [byteG n] := rfl
@[simp] theorem byteG_scalar (n : Nat) : (byteG n).scalar = true := rfl
@[simp] theorem byteG_put (n : Nat) (v : GV) : (byteG n).put 0 [v] = some v := rfl
theorem bytesG_map : ∀ l : List Nat, (∀ x ∈ l, x < 256) → bytesG (l.map byteG) = some (l.map UInt8.ofNat)
 | [], _ => rfl
 | a :: l, h => by
  have h1 := h a (by simp)
  have h2 := bytesG_map l fun x hx => h x (by simp [hx])
  simp only [List.map_cons, byteG, bytesG] at h2 ⊢
  rw [if_pos (by omega)]
  have : (fun n : Nat => GV.i .u8 (n : Int)) = byteG := rfl
  rw [h2]
  simp
theorem loop10 : ∀ (m n : Nat) (done : List Nat), n < 18446744073709551616 → done.length + m < 1000 →
  TT.lim 11 [.i .u64 n, .l ((done ++ List.replicate m 0).map byteG), .i .i64 ((done.length + m : Nat) : Int), .i .i64 done.length] = some [.i .i64 0, .l ((done ++ vraw m n).map byteG)]
 | 0, n, done, hn, hd => by
  refine tree_lim rfl rfl ?_
  simp -implicitDefEqProofs [vraw]
 | m + 1, n, done, hn, hd => by
  have hlt : (done.length : Int) < ((done.length + (m + 1) : Nat) : Int) := by omega
  have hw := wrap64 (n := (done.length : Int) + 1) (by omega) (by omega)
  have hw8 := wrapu8 (n := ((n % 128 : Nat) : Int)) (by omega) (by omega)
  have h7 : shG .shr .u64 (n : Int) 7 = some (.i .u64 ((n / 128 : Nat) : Int)) := shr_u64
  have ha := and127 n hn
  have ho := or128 (n % 128) (by omega)
  have ih := loop10 m (n / 128) (done ++ [n % 128 + 128]) (by omega) (by simp; omega)
  have hlen : (done ++ [n % 128 + 128]).length + m = done.length + (m + 1) := by simp; omega
  rw [hlen] at ih
  have hl2 : (((done ++ [n % 128 + 128]).length : Nat) : Int) = (done.length : Int) + 1 := by simp
  rw [hl2] at ih
  have hset : ((done ++ List.replicate (m + 1) 0).map byteG).set done.length (byteG (n % 128 + 128)) = (done ++ [n % 128 + 128] ++ List.replicate m 0).map byteG := by
   rw [List.replicate_succ, ← List.map_set, List.set_append_right _ _ (Nat.le_refl _), Nat.sub_self]
   simp
  have hget : ((done ++ List.replicate (m + 1) 0).map byteG)[done.length]? = some (byteG 0) := by
   rw [List.getElem?_map, List.getElem?_append_right (Nat.le_refl _), Nat.sub_self, List.replicate_succ]; rfl
  have hll : ((done ++ List.replicate (m + 1) 0).map byteG).length = done.length + (m + 1) := by simp
  have hv : done ++ vraw (m + 1) n = done ++ [n % 128 + 128] ++ vraw m (n / 128) := by simp [vraw]
  rw [hv]
  generalize hL : (done ++ List.replicate (m + 1) 0).map byteG = L at *
  refine tree_lim rfl rfl ?_
  have hix : (0 : Int) ≤ (done.length : Int) ∧ (done.length : Int) < (L.length : Int) := by rw [hll]; omega
  have hob : GV.i IntKind.u8 ((n % 128 + 128 : Nat) : Int) = byteG (n % 128 + 128) := rfl
  have hset' : L.set done.length (GV.i IntKind.u8 ((n % 128 + 128 : Nat) : Int)) = (done ++ [n % 128 + 128] ++ List.replicate m 0).map byteG := hset
  generalize (done ++ [n % 128 + 128] ++ List.replicate m 0).map byteG = L2 at ih hset'
  generalize (done ++ [n % 128 + 128] ++ vraw m (n / 128)).map byteG = L3 at ih ⊢
  generalize ((n / 128 : Nat) : Int) = q at h7 ih
  generalize ((n % 128 + 128 : Nat) : Int) = z at ho hset'
  generalize ((n % 128 : Nat) : Int) = rr at ha hw8 ho
  generalize ((done.length + (m + 1) : Nat) : Int) = N at hlt ih ⊢
  simp -implicitDefEqProofs [hlt, ha, hw8, ho, hix, hget, h7, hw, hset', ih]
theorem vraw_len : ∀ m n, (vraw m n).length = m
 | 0, _ => rfl
 | m + 1, n => by simp [vraw, vraw_len m]
theorem vraw_lt : ∀ m n, ∀ x ∈ vraw m n, x < 256
 | 0, _, x, h => by simp [vraw] at h
 | m + 1, n, x, h => by
  simp only [vraw, List.mem_cons] at h
  rcases h with rfl | h
  ·omega
  ·exact vraw_lt m _ x h
/-- The last byte without its high bit: as numbers are written. -/
theorem vraw_put : ∀ (s n : Nat), vsize n = s + 1 → ∃ x, (vraw (s + 1) n)[s]? = some x ∧ ((vraw (s + 1) n).set s (x % 128)).map UInt8.ofNat = vput n
 | 0, n, h => by
  have hn : n < 128 := by
   by_cases hn : n < 128
   ·exact hn
   ·rw [vsize_ge hn] at h; have := vsize_pos (n / 128); omega
  refine ⟨n % 128 + 128, by simp [vraw], ?_⟩
  rw [vput_lt hn]
  simp -implicitDefEqProofs [vraw]
  rw [Nat.mod_eq_of_lt hn]
 | s + 1, n, h => by
  have hn : ¬ n < 128 := by
   intro hn
   unfold vsize at h; rw [vput_lt hn] at h; simp at h
  rw [vsize_ge hn] at h
  obtain ⟨x, h1, h2⟩ := vraw_put s (n / 128) (by omega)
  refine ⟨x, by simp only [vraw, List.getElem?_cons_succ] at h1 ⊢; exact h1, ?_⟩
  rw [vput_ge hn, ← h2]
  simp -implicitDefEqProofs [vraw]
theorem put7 (n : Nat) (hn : n < 18446744073709551616) : TT.lim 8 [.i .u64 n] = some [.s (vput n)] := by
 have h8 := size8 n hn
 have hp := vsize_pos n
 have hs := vsize64 hn
 obtain ⟨s, hs1⟩ : ∃ s, vsize n = s + 1 := ⟨vsize n - 1, by omega⟩
 obtain ⟨x, h1, h2⟩ := vraw_put s n hs1
 rw [hs1] at h8
 have h10 : TT.lim 11 [.i .u64 n, .l ((List.replicate (s + 1) 0).map byteG), .i .i64 ((s + 1 : Nat) : Int), .i .i64 0] = some [.i .i64 0, .l ((vraw (s + 1) n).map byteG)] := by
  have := loop10 (s + 1) n [] hn (by simp; omega)
  simpa using this
 have hr : (List.replicate (s + 1) 0).map byteG = List.replicate (s + 1) (GV.i .u8 0) := by rw [List.map_replicate]; rfl
 rw [hr] at h10
 have hx : x < 256 := vraw_lt _ _ x (List.mem_of_getElem? h1)
 have ha := and127_8 x hx
 have hget : ((vraw (s + 1) n).map byteG)[s]? = some (byteG x) := by rw [List.getElem?_map, h1]; rfl
 have hset : ((vraw (s + 1) n).map byteG).set s (GV.i .u8 ((x % 128 : Nat) : Int)) = ((vraw (s + 1) n).set s (x % 128)).map byteG := (List.map_set (f := byteG) (l := vraw (s + 1) n) (i := s) (a := x % 128)).symm
 have hb := bytesG_map ((vraw (s + 1) n).set s (x % 128)) (fun y hy => by
  rcases List.mem_or_eq_of_mem_set hy with hy | rfl
  ·exact vraw_lt _ _ y hy
  ·omega)
 rw [h2] at hb
 have hlen : (((vraw (s + 1) n).set s (x % 128)).map byteG).length = s + 1 := by simp [vraw_len]
 have hlr : (List.replicate (s + 1) (GV.i .u8 0)).length = s + 1 := by simp
 have hl1 : ((vraw (s + 1) n).map byteG).length = s + 1 := by simp [vraw_len]
 generalize ((vraw (s + 1) n).set s (x % 128)).map byteG = L3 at hset hb hlen
 generalize (vraw (s + 1) n).map byteG = L2 at h10 hget hset hl1
 generalize hrep : List.replicate (s + 1) (GV.i .u8 0) = L1 at h10 hlr
 refine fn_lim rfl rfl ?_ rfl
 have hw := wrap64 (n := (s : Int)) (by omega) (by omega)
 have hcast : ((s + 1 : Nat) : Int) = (s : Int) + 1 := by omega
 rw [hcast] at h8 h10
 have hc1 : (0 : Int) ≤ (s : Int) + 1 ∧ (s : Int) + 1 ≤ 281474976710656 ∧ (s : Int) + 1 ≤ 1152921504606846976 := by omega
 have hc2 : ((s : Int) + 1).toNat = s + 1 := by omega
 have hlt : (s : Int) < (s : Int) + 1 := by omega
 have hs2 : (s : Int) + 1 - 1 = (s : Int) := by omega
 generalize hM : ((x % 128 : Nat) : Int) = M at ha hset
 have hxx : byteG x = .i .u8 x := rfl
 have h48 : s + 1 ≤ 281474976710656 := by omega
 have hg2 : L2[s]'(by omega) = byteG x := by have := hget; rw [List.getElem?_eq_getElem (by omega)] at this; exact Option.some.inj this
 simp -implicitDefEqProofs [h8, hc1, hc2, hrep, hlr, h10, hl1, hs2, hw, hlt, hget, hg2, ha, hset, hxx, hlen, hb, h48, GV.elemOk]
theorem byteGs_append (a b : List UInt8) : byteGs (a ++ b) = byteGs a ++ byteGs b := by simp [byteGs]
@[simp] theorem byteGs_length (a : List UInt8) : (byteGs a).length = a.length := by simp [byteGs]
theorem byteGs_ok (a : List UInt8) : (byteGs a).all (GV.elemOk 1) = true := by
 rw [List.all_eq_true]
 intro x hx
 obtain ⟨b, _, rfl⟩ := List.mem_map.1 hx
 rfl
theorem bytesG_byteGs : ∀ a : List UInt8, bytesG (byteGs a) = some a
 | [] => rfl
 | x :: a => by
  have ih := bytesG_byteGs a
  simp only [byteGs, List.map_cons, bytesG] at ih ⊢
  have := x.toNat_lt
  rw [if_pos (by omega), ih]
  simp
def entPut (x : Ent) : List UInt8 := vput x.1.length ++ x.1 ++ vput x.2.length ++ x.2
def keyF (d : List Ent) : List UInt8 := vput d.length ++ d.flatMap entPut
theorem vput_len {n : Nat} (h : n < 18446744073709551616) : (vput n).length ≤ 10 := vsize64 h
theorem entput12 (x : Ent) (h1 : x.1.length ≤ 140737488351232) (h2 : x.2.length ≤ 140737488351232) : TT.lim 13 [ent x] = some [.s (entPut x)] := by
 have k1 := put7 x.1.length (by omega)
 have k2 := put7 x.2.length (by omega)
 have l1 := vput_len (n := x.1.length) (by omega)
 have l2 := vput_len (n := x.2.length) (by omega)
 have w1 := wrapu64 (n := (x.1.length : Int)) (by omega) (by omega)
 have w2 := wrapu64 (n := (x.2.length : Int)) (by omega) (by omega)
 refine fn_lim rfl rfl ?_ rfl
 have c1 : ((vput x.1.length).length : Int) + (x.1.length : Int) ≤ 9223372036854775807 := by omega
 have c2 : ((vput x.1.length).length : Int) + ((x.1.length : Int) + ((vput x.2.length).length : Int)) ≤ 9223372036854775807 := by omega
 have c3 : ((vput x.1.length).length : Int) + ((x.1.length : Int) + (((vput x.2.length).length : Int) + (x.2.length : Int))) ≤ 9223372036854775807 := by omega
 simp -implicitDefEqProofs [w1, w2, k1, k2, c1, c2, c3, entPut, Int.add_assoc]
theorem entPut_len {x : Ent} (h : fewE x = true) : (entPut x).length ≤ 620 := by
 unfold fewE at h
 simp only [decide_eq_true_iff] at h
 have l1 := vput_len (n := x.1.length) (by omega)
 have l2 := vput_len (n := x.2.length) (by omega)
 simp only [entPut, List.length_append]
 omega
theorem flat_len620 : ∀ d : List Ent, d.all fewE = true → (d.flatMap entPut).length ≤ 620 * d.length
 | [], _ => by simp
 | x :: d, h => by
  rw [List.all_cons, Bool.and_eq_true] at h
  have := entPut_len h.1
  have := flat_len620 d h.2
  simp only [List.flatMap_cons, List.length_append, List.length_cons]
  omega
theorem loop11 (d : List Ent) (hf : d.all fewE = true) (hl : d.length ≤ 40) : ∀ (m i : Nat) (acc : List UInt8), i + m = d.length → acc.length ≤ 10 + 620 * i →
  TT.lim 12 [.l (d.map ent), .i .i64 d.length, .i .i64 i, .l (byteGs acc)] = some [.i .i64 0, .l (byteGs (acc ++ (d.drop i).flatMap entPut))]
 | 0, i, acc, hi, ha => by
  have h0 : d.drop i = [] := List.drop_eq_nil_of_le (by omega)
  refine tree_lim rfl rfl ?_
  have h : ¬ ((i : Int) < d.length) := by omega
  simp -implicitDefEqProofs [h, h0]
 | m + 1, i, acc, hi, ha => by
  have hlt : i < d.length := by omega
  have hx := List.all_eq_true.1 hf d[i] (List.getElem_mem hlt)
  have hx1 := hx
  unfold fewE at hx1
  simp only [decide_eq_true_iff] at hx1
  have hp := entput12 d[i] (by omega) (by omega)
  have hpl := entPut_len hx
  have ih : TT.lim 12 [.l (d.map ent), .i .i64 d.length, .i .i64 ((i : Int) + 1), .l (byteGs (acc ++ entPut d[i]))] = _ := loop11 d hf hl m (i + 1) (acc ++ entPut d[i]) (by omega) (by simp; omega)
  rw [byteGs_append] at ih
  have hd : (d.drop i).flatMap entPut = entPut d[i] ++ (d.drop (i + 1)).flatMap entPut := by rw [List.drop_eq_getElem_cons hlt, List.flatMap_cons]
  rw [hd, ← List.append_assoc]
  refine tree_lim rfl rfl ?_
  have h : ((i : Int) < d.length) := by omega
  have hw := wrap64 (n := (i : Int) + 1) (by omega) (by omega)
  have hok := byteGs_ok (entPut d[i])
  have hb : 2 * (acc.length + (entPut d[i]).length) ≤ 281474976710656 ∧ acc.length + (entPut d[i]).length ≤ 281474976710656 := by omega
  have he : GV.g [GV.s d[i].1, GV.s d[i].2] = ent d[i] := rfl
  simp -implicitDefEqProofs [-List.all_eq_true, h, hlt, he, hp, hok, hb, hw, ih]
theorem key6 (d : List Ent) (hf : few12 d = true) : TT.lim 7 [.l (d.map ent)] = some [.s (keyF d)] := by
 unfold few12 at hf
 rw [Bool.and_eq_true, decide_eq_true_iff] at hf
 have k := put7 d.length (by omega)
 have l1 := vput_len (n := d.length) (by omega)
 have w1 := wrapu64 (n := (d.length : Int)) (by omega) (by omega)
 have h11 : TT.lim 12 [.l (d.map ent), .i .i64 d.length, .i .i64 0, .l (byteGs (vput d.length))] = _ := loop11 d hf.1 hf.2 d.length 0 (vput d.length) (by omega) (by omega)
 rw [List.drop_zero] at h11
 have hb : 2 * (vput d.length).length ≤ 281474976710656 ∧ (vput d.length).length ≤ 281474976710656 := by omega
 have hok := byteGs_ok (vput d.length)
 have hfl := flat_len620 d hf.1
 have hc : (vput d.length).length + (List.flatMap entPut d).length ≤ 281474976710656 := by omega
 have hbg := bytesG_byteGs (vput d.length ++ d.flatMap entPut)
 refine fn_lim rfl rfl ?_ rfl
 unfold keyF
 generalize d.flatMap entPut = F at *
 simp -implicitDefEqProofs [-List.all_eq_true, w1, k, hb, hok, h11, hc, hbg]
theorem entPut_inj {x y : Ent} {a b : List UInt8} (h : entPut x ++ a = entPut y ++ b) : x = y ∧ a = b := by
 unfold entPut at h
 simp only [List.append_assoc] at h
 obtain ⟨h1, h2⟩ := vput_inj _ _ _ _ h
 obtain ⟨h3, h4⟩ := List.append_inj h2 h1
 obtain ⟨h5, h6⟩ := vput_inj _ _ _ _ h4
 obtain ⟨h7, h8⟩ := List.append_inj h6 h5
 exact ⟨Prod.ext h3 h7, h8⟩
theorem flat_inj : ∀ {d e : List Ent} {a b : List UInt8}, d.length = e.length → d.flatMap entPut ++ a = e.flatMap entPut ++ b → d = e ∧ a = b
 | [], [], a, b, _, h => ⟨rfl, by simpa using h⟩
 | x :: d, y :: e, a, b, hl, h => by
  simp only [List.flatMap_cons, List.append_assoc] at h
  obtain ⟨h1, h2⟩ := entPut_inj h
  obtain ⟨h3, h4⟩ := flat_inj (by simpa using hl) h2
  exact ⟨by rw [h1, h3], h4⟩
 | [], _ :: _, _, _, hl, _ => by simp at hl
 | _ :: _, [], _, _, hl, _ => by simp at hl
theorem keyF_pre {d e : List Ent} {a b : List UInt8} (h : keyF d ++ a = keyF e ++ b) : d = e ∧ a = b := by
 unfold keyF at h
 simp only [List.append_assoc] at h
 obtain ⟨h1, h2⟩ := vput_inj _ _ _ _ h
 exact flat_inj h1 h2
theorem keyF_inj {d e : List Ent} (h : keyF d = keyF e) : d = e := (keyF_pre (a := []) (b := []) (by simpa using h)).1
def utfChk (s : List UInt8) (lo hi : Int) : Int := if (s.length : Int) < lo then 13 else if hi < (s.length : Int) then 13 else if Lib.validD s = true then 0 else 11
theorem good20 (s : List UInt8) (h : s.length ≤ 140737488351232) : TT.lim 26 [.s s] = some [.b (Lib.validD s)] := by
 have h21 : TT.lim 27 [.s s] = some [.b (Lib.validD s)] := prim_lim (Ds := Ds) (k := 27) (f := validP) rfl (by simp only [validP]; rw [if_pos (by omega)])
 refine fn_lim rfl rfl ?_ rfl
 simp -implicitDefEqProofs [h21]
theorem check19 (s : List UInt8) (lo hi : Int) (h : s.length ≤ 140737488351232) : TT.lim 25 [.s s, .i .i64 lo, .i .i64 hi] = some [.i .i64 (utfChk s lo hi)] := by
 have h20 := good20 s h
 refine fn_lim rfl rfl ?_ rfl
 unfold utfChk
 by_cases h1 : (s.length : Int) < lo
 ·simp -implicitDefEqProofs [h1]
 ·by_cases h2 : hi < (s.length : Int)
  ·simp -implicitDefEqProofs [h1, h2]
  ·cases hv : Lib.validD s <;> rw [hv] at h20 <;> simp [h1, h2, h20, hv]
def entChk (x : Ent) : Int := if utfChk x.1 1 64 ≠ 0 then utfChk x.1 1 64 else utfChk x.2 0 256
theorem entcheck18 (x : Ent) (h1 : x.1.length ≤ 140737488351232) (h2 : x.2.length ≤ 140737488351232) : TT.lim 24 [ent x] = some [.i .i64 (entChk x)] := by
 have k1 := check19 x.1 1 64 h1
 have k2 := check19 x.2 0 256 h2
 refine fn_lim rfl rfl ?_ rfl
 unfold entChk
 by_cases h : utfChk x.1 1 64 = 0
 ·simp -implicitDefEqProofs [k1, h, k2]
 ·simp -implicitDefEqProofs [k1, h]
def chkL : Option (List UInt8) → List Ent → Int
 | _, [] => 0
 | p, x :: xs => if entChk x ≠ 0 then entChk x else match p with
  | none => chkL (some x.1) xs
  | some k => if x.1 = k then 14 else if Op.bytesLess x.1 k = true then 7 else chkL (some x.1) xs
def tagged (r : Int) : List GV := if r = 0 then [.i .i64 1] else [.i .i64 0, .i .i64 r]
def prevK (d : List Ent) (i : Nat) : Option (List UInt8) := if i = 0 then none else (d[i - 1]?).map (·.1)
theorem loop17 (d : List Ent) (hd : Ents d) : ∀ m i : Nat, i + m = d.length → TT.lim 23 [.l (d.map ent), .i .i64 d.length, .i .i64 i] = some (tagged (chkL (prevK d i) (d.drop i)))
 | 0, i, hi => by
  have h0 : d.drop i = [] := List.drop_eq_nil_of_le (by omega)
  refine tree_lim rfl rfl ?_
  have h : ¬ ((i : Int) < d.length) := by omega
  simp -implicitDefEqProofs [h, h0, chkL, tagged]
 | m + 1, i, hi => by
  have hlt : i < d.length := by omega
  have hx := hd.2 d[i] (List.getElem_mem hlt)
  have hp := entcheck18 d[i] hx.1 hx.2
  have ih : TT.lim 23 [.l (d.map ent), .i .i64 d.length, .i .i64 ((i : Int) + 1)] = _ := loop17 d hd m (i + 1) (by omega)
  have hpk : prevK d (i + 1) = some d[i].1 := by unfold prevK; rw [if_neg (by omega)]; simp [hlt]
  rw [hpk] at ih
  have hdr : d.drop i = d[i] :: d.drop (i + 1) := List.drop_eq_getElem_cons hlt
  rw [hdr]
  refine tree_lim rfl rfl ?_
  have h : ((i : Int) < d.length) := by omega
  have hw := wrap64 (n := (i : Int) + 1) (by omega) (by have := hd.1; omega)
  have he : GV.g [GV.s d[i].1, GV.s d[i].2] = ent d[i] := rfl
  by_cases h1 : entChk d[i] = 0
  rotate_left
  ·simp -implicitDefEqProofs [h, hlt, he, hp, h1, chkL, tagged]
  by_cases h0 : i = 0
  ·subst h0
   simp only [Int.natCast_zero, Int.zero_add] at hw ih
   simp -implicitDefEqProofs [h, hlt, he, hp, h1, chkL, prevK, hw]
   simpa using ih
  ·have hi1 : i - 1 < d.length := by omega
   have hpk2 : prevK d i = some d[i - 1].1 := by unfold prevK; rw [if_neg h0]; simp [hi1]
   have hw2 := wrap64 (n := (i : Int) - 1) (by omega) (by have := hd.1; omega)
   have hi0 : ¬ ((i : Int) = 0) := by omega
   have hge : (0 : Int) ≤ (i : Int) - 1 := by omega
   have ht : ((i : Int) - 1).toNat = i - 1 := by omega
   have hnl : (1 : Int) ≤ (i : Int) := by omega
   rw [hpk2]
   by_cases h2 : d[i].1 = d[i - 1].1
   ·have h2' : (d[i].1 = d[i - 1].1) = True := eq_true h2
    clear h2
    simp -implicitDefEqProofs [h, hlt, he, hp, h1, hi0, h0, hw2, ht, hi1, h2', chkL, tagged, hnl]
   ·cases h3 : Op.bytesLess d[i].1 d[i - 1].1 with
    | true => simp [h, hlt, he, hp, h1, hi0, h0, hw2, ht, hi1, h2, h3, chkL, tagged, hnl]
    | false => simp [h, hlt, he, hp, h1, hi0, h0, hw2, ht, hi1, h2, h3, chkL, hw, ih, hnl]
def descrChk (d : List Ent) : Int := if d.length = 0 then 12 else if 16 < d.length then 13 else chkL none d
theorem check16 (d : List Ent) (hd : Ents d) : TT.lim 22 [.l (d.map ent)] = some [.i .i64 (descrChk d)] := by
 have h17 : TT.lim 23 [.l (d.map ent), .i .i64 d.length, .i .i64 0] = _ := loop17 d hd d.length 0 (by omega)
 have hpk : prevK d 0 = none := rfl
 rw [hpk, List.drop_zero] at h17
 have w1 := wrapu64 (n := (d.length : Int)) (by omega) (by have := hd.1; omega)
 refine fn_lim rfl rfl ?_ rfl
 unfold descrChk
 by_cases h0 : d.length = 0
 ·have h0' : (d.length : Int) = 0 := by omega
  have : d = [] := List.eq_nil_of_length_eq_zero h0
  subst this
  simp -implicitDefEqProofs [IntKind.wrap, IntKind.signed]
 ·have h0' : ¬ (d.length : Int) = 0 := by omega
  by_cases h1 : 16 < d.length
  ·have h1' : (16 : Int) < (d.length : Int) := by omega
   simp -implicitDefEqProofs [w1, h0, h1, h0', h1']
  ·have h1' : ¬ (16 : Int) < (d.length : Int) := by omega
   by_cases h2 : chkL none d = 0
   ·simp only [tagged, h2, if_true] at h17
    simp -implicitDefEqProofs [w1, h0, h1, h0', h1', h17, h2]
   ·simp only [tagged, h2, if_false] at h17
    simp -implicitDefEqProofs [w1, h0, h1, h0', h1', h17]
def rowChk (r : Row) : Int := if descrChk r.1 ≠ 0 then descrChk r.1 else if r.2 = 0 then 18 else 0
theorem check15 (r : Row) (hd : Ents r.1) : TT.lim 21 [row r] = some [.i .i64 (rowChk r)] := by
 have k := check16 r.1 hd
 refine fn_lim rfl rfl ?_ rfl
 unfold rowChk
 by_cases h : descrChk r.1 = 0
 ·by_cases h2 : r.2 = 0
  ·simp -implicitDefEqProofs [k, h, h2]
  ·simp -implicitDefEqProofs [k, h, h2]
 ·simp -implicitDefEqProofs [k, h]
def fewR (long : Bool) (r : Row) : Bool := decide (r.1.length ≤ 18) && few12 r.1 && (!long || decide ((keyF r.1).length ≤ 100))
theorem loop3 (l : List Row) (hl : Rows l) : ∀ m i : Nat, i + m = l.length → TT.lim 4 [.l (l.map row), .i .i64 l.length, .i .i64 i] = some (if (l.drop i).all (fewR (decide (40 < l.length))) = true then [.i .i64 1] else [.i .i64 0])
 | 0, i, hi => by
  have h0 : l.drop i = [] := List.drop_eq_nil_of_le (by omega)
  refine tree_lim rfl rfl ?_
  have h : ¬ ((i : Int) < l.length) := by omega
  simp -implicitDefEqProofs [h, h0]
 | m + 1, i, hi => by
  have hlt : i < l.length := by omega
  have hr := hl.2 l[i] (List.getElem_mem hlt)
  have ih : TT.lim 4 [.l (l.map row), .i .i64 l.length, .i .i64 ((i : Int) + 1)] = _ := loop3 l hl m (i + 1) (by omega)
  have hda : (l.drop i).all (fewR (decide (40 < l.length))) = (fewR (decide (40 < l.length)) l[i] && (l.drop (i + 1)).all (fewR (decide (40 < l.length)))) := by rw [List.drop_eq_getElem_cons hlt, List.all_cons]
  rw [hda]
  refine tree_lim rfl rfl ?_
  have h : ((i : Int) < l.length) := by omega
  have hw := wrap64 (n := (i : Int) + 1) (by omega) (by have := hl.1; omega)
  have h4 := few4 l[i].1 hr.1
  by_cases h1 : 18 < l[i].1.length
  ·have h1' : (18 : Int) < (l[i].1.length : Int) := by omega
   have : fewR (decide (40 < l.length)) l[i] = false := by unfold fewR; simp; omega
   rw [this]
   simp -implicitDefEqProofs [h, hlt, h1']
  have h1' : ¬ (18 : Int) < (l[i].1.length : Int) := by omega
  have h1d : l[i].1.length ≤ 18 := by omega
  cases hf : few12 l[i].1 with
  | false =>
   rw [hf] at h4
   have : fewR (decide (40 < l.length)) l[i] = false := by unfold fewR; simp [hf]
   rw [this]
   simp -implicitDefEqProofs [h, hlt, h1', h4]
  | true =>
   rw [hf] at h4
   have k6 := key6 l[i].1 hf
   by_cases h2 : 40 < l.length
   ·have h2' : (40 : Int) < (l.length : Int) := by omega
    by_cases h3 : 100 < (keyF l[i].1).length
    ·have h3' : (100 : Int) < ((keyF l[i].1).length : Int) := by omega
     have : fewR (decide (40 < l.length)) l[i] = false := by unfold fewR; simp [h2]; omega
     rw [this]
     simp -implicitDefEqProofs [h, hlt, h1', h4, h2', k6, h3']
    ·have h3' : ¬ (100 : Int) < ((keyF l[i].1).length : Int) := by omega
     have : fewR (decide (40 < l.length)) l[i] = true := by unfold fewR; simp [h2, hf, h1d]; omega
     rw [this, Bool.true_and]
     simp -implicitDefEqProofs [h, hlt, h1', h4, h2', k6, h3', hw, ih]
   ·have h2' : ¬ (40 : Int) < (l.length : Int) := by omega
    have : fewR (decide (40 < l.length)) l[i] = true := by unfold fewR; simp [h2, hf, h1d]
    rw [this, Bool.true_and]
    simp -implicitDefEqProofs [h, hlt, h1', h4, h2', hw, ih]
def few13 (l : List Row) : Bool := l.all (fewR (decide (40 < l.length))) && decide (l.length ≤ 300)
theorem few2 (l : List Row) (hl : Rows l) : TT.lim 3 [.l (l.map row)] = some [.b (few13 l)] := by
 refine fn_lim rfl rfl ?_ rfl
 have h3 : TT.lim 4 [.l (l.map row), .i .i64 l.length, .i .i64 0] = _ := loop3 l hl l.length 0 (by omega)
 rw [List.drop_zero] at h3
 unfold few13
 cases hc : l.all (fewR (decide (40 < l.length))) with
 | false => rw [hc] at h3; simp [h3]
 | true =>
  rw [hc] at h3; simp only [if_true] at h3
  have : (decide ((l.length : Int) ≤ 300)) = decide (l.length ≤ 300) := by rw [Bool.eq_iff_iff]; simp; omega
  simp -implicitDefEqProofs [h3, this]
theorem few13_few {l : List Row} (h : few13 l = true) : ∀ r ∈ l, few12 r.1 = true := by
 unfold few13 at h
 rw [Bool.and_eq_true] at h
 intro r hr
 have := List.all_eq_true.1 h.1 r hr
 unfold fewR at this
 simp only [Bool.and_eq_true] at this
 exact this.1.2
theorem clone23 (d : List Ent) (h : d.length ≤ 40) : TT.lim 31 [.l (d.map ent)] = some [.l (d.map ent)] := by
 refine prim_lim (Ds := Ds) (k := 31) (f := cloneP 32 2) rfl ?_
 have hall : (d.map ent).all (GV.elemOk 2) = true := by
  rw [List.all_eq_true]; intro x hx; obtain ⟨r, _, rfl⟩ := List.mem_map.1 hx; rfl
 simp only [cloneP]
 rw [if_pos ⟨by rw [List.length_map]; omega, hall⟩]
abbrev K (r : Row) : List UInt8 := keyF r.1
/-- How many rows at the head have lesser keys. -/
def adv (k : List UInt8) : List Row → Nat
 | [] => 0
 | r :: rs => if Op.bytesLess (K r) k = true then adv k rs + 1 else 0
theorem drop_adv (k : List UInt8) : ∀ t : List Row, t.drop (adv k t) = t.dropWhile fun r => Op.bytesLess (K r) k
 | [] => rfl
 | r :: rs => by
  unfold adv
  cases h : Op.bytesLess (K r) k with
  | true => simp [h, drop_adv k rs]
  | false => simp [h]
theorem adv_le (k : List UInt8) : ∀ t : List Row, adv k t ≤ t.length
 | [] => by simp [adv]
 | r :: rs => by
  unfold adv
  have := adv_le k rs
  split <;> simp; omega
def out26 (t : List Row) (i : Nat) (k : GV) (b n j dd nn : GV) : List GV := match t[i]? with
 | some r => [.i .i64 0, .i .i64 i, row r, .l (r.1.map ent), .s (keyF r.1)]
 | none => [.i .i64 1, .i .i64 i]
theorem loop26 (t : List Row) (ht : t.length ≤ 256) (hf : ∀ r ∈ t, few12 r.1 = true) (k : List UInt8) (b n j dd nn : GV) : ∀ m i : Nat, i + m = t.length →
  TT.lim 54 [.l (t.map row), .i .i64 i, .s k, b, n, j, dd, nn] = some (out26 t (i + adv k (t.drop i)) (.s k) b n j dd nn)
 | 0, i, hi => by
  have h0 : t.drop i = [] := List.drop_eq_nil_of_le (by omega)
  have h1 : t[i]? = none := List.getElem?_eq_none (by omega)
  refine tree_lim rfl rfl ?_
  have h : ¬ ((i : Int) < t.length) := by omega
  simp -implicitDefEqProofs [h, h0, adv, out26, h1]
 | m + 1, i, hi => by
  have hlt : i < t.length := by omega
  have ih : TT.lim 54 [.l (t.map row), .i .i64 ((i : Int) + 1), .s k, b, n, j, dd, nn] = _ := loop26 t ht hf k b n j dd nn m (i + 1) (by omega)
  have k6 := key6 t[i].1 (hf _ (List.getElem_mem hlt))
  have hd : adv k (t.drop i) = if Op.bytesLess (K t[i]) k = true then adv k (t.drop (i + 1)) + 1 else 0 := by rw [List.drop_eq_getElem_cons hlt]; rfl
  refine tree_lim rfl rfl ?_
  have h : ((i : Int) < t.length) := by omega
  have hw := wrap64 (n := (i : Int) + 1) (by omega) (by omega)
  rw [hd]
  cases hb : Op.bytesLess (K t[i]) k with
  | true =>
   have hb' : Op.bytesLess (keyF t[i].1) k = true := hb
   rw [if_pos rfl, show i + (adv k (t.drop (i + 1)) + 1) = i + 1 + adv k (t.drop (i + 1)) by omega]
   simp -implicitDefEqProofs [h, hlt, k6, hb', hw, ih]
  | false =>
   have hb' : Op.bytesLess (keyF t[i].1) k = false := hb
   have h1 : t[i]? = some t[i] := List.getElem?_eq_getElem hlt
   rw [if_neg (by simp), Nat.add_zero]
   simp -implicitDefEqProofs [h, hlt, k6, hb', out26]
def atL : List Row → List Row → Bool
 | _, [] => true
 | t, r :: rs => match t.drop (adv (K r) t) with
  | [] => false
  | s :: t' => decide (K s = K r) && decide (r.2 ≤ s.2) && atL (s :: t') rs
theorem loop25 (t b : List Row) (ht : t.length ≤ 256) (hb : b.length ≤ 256) (hf : ∀ r ∈ t, few12 r.1 = true) (hg : ∀ r ∈ b, few12 r.1 = true) : ∀ m j i : Nat, j + m = b.length → i ≤ t.length →
  TT.lim 53 [.l (t.map row), .i .i64 i, .l (b.map row), .i .i64 b.length, .i .i64 j] = some (if atL (t.drop i) (b.drop j) = true then [.i .i64 1] else [.i .i64 0])
 | 0, j, i, hj, hi => by
  have h0 : b.drop j = [] := List.drop_eq_nil_of_le (by omega)
  refine tree_lim rfl rfl ?_
  have h : ¬ ((j : Int) < b.length) := by omega
  simp -implicitDefEqProofs [h, h0, atL]
 | m + 1, j, i, hj, hi => by
  have hlt : j < b.length := by omega
  have k6 := key6 b[j].1 (hg _ (List.getElem_mem hlt))
  have h26 := loop26 t ht hf (keyF b[j].1) (.l (b.map row)) (.i .i64 b.length) (.i .i64 j) (.l (b[j].1.map ent)) (.i .u64 b[j].2) (t.length - i) i (by omega)
  have hal := adv_le (keyF b[j].1) (t.drop i)
  rw [List.length_drop] at hal
  have hdr : b.drop j = b[j] :: b.drop (j + 1) := List.drop_eq_getElem_cons hlt
  have hat : atL (t.drop i) (b.drop j) = match t.drop (i + adv (keyF b[j].1) (t.drop i)) with
   | [] => false
   | s :: t' => decide (K s = K b[j]) && decide (b[j].2 ≤ s.2) && atL (s :: t') (b.drop (j + 1)) := by
   rw [hdr]; simp only [atL, List.drop_drop]
  rw [hat]
  generalize hi' : i + adv (keyF b[j].1) (t.drop i) = i' at h26 ⊢
  have hi2 : i' ≤ t.length := by omega
  refine tree_lim rfl rfl ?_
  have h : ((j : Int) < b.length) := by omega
  have hw := wrap64 (n := (j : Int) + 1) (by omega) (by omega)
  by_cases hlt2 : i' < t.length
  ·have hne : ¬ ((i' : Int) = (t.length : Int)) := by omega
   have h1 : t[i']? = some t[i'] := List.getElem?_eq_getElem hlt2
   have hd2 : t.drop i' = t[i'] :: t.drop (i' + 1) := List.drop_eq_getElem_cons hlt2
   have k7 := key6 t[i'].1 (hf _ (List.getElem_mem hlt2))
   have ih : TT.lim 53 [.l (t.map row), .i .i64 i', .l (b.map row), .i .i64 b.length, .i .i64 ((j : Int) + 1)] = _ := loop25 t b ht hb hf hg m (j + 1) i' (by omega) hi2
   simp only [out26, h1] at h26
   rw [hd2]
   rw [hd2] at ih
   by_cases h2 : keyF t[i'].1 = keyF b[j].1
   ·have h2' : (keyF t[i'].1 = keyF b[j].1) = True := eq_true h2
    clear h2
    by_cases h3 : t[i'].2 < b[j].2
    ·have h3' : ¬ b[j].2 ≤ t[i'].2 := by omega
     simp -implicitDefEqProofs [h, hlt, k6, h26, hne, hlt2, k7, h2', h3, h3']
    ·have h3' : b[j].2 ≤ t[i'].2 := by omega
     simp -implicitDefEqProofs [h, hlt, k6, h26, hne, hlt2, k7, h2', h3, h3', hw, ih]
   ·simp -implicitDefEqProofs [h, hlt, k6, h26, hne, hlt2, k7, h2]
  ·have he : (i' : Int) = (t.length : Int) := by omega
   have h1 : t[i']? = none := List.getElem?_eq_none (by omega)
   have hd2 : t.drop i' = [] := List.drop_eq_nil_of_le (by omega)
   simp only [out26, h1] at h26
   rw [hd2]
   simp -implicitDefEqProofs [h, hlt, k6, h26, he]
theorem atLeast24 (t b : List Row) (ht : t.length ≤ 256) (hb : b.length ≤ 256) (hf : ∀ r ∈ t, few12 r.1 = true) (hg : ∀ r ∈ b, few12 r.1 = true) : TT.lim 52 [.l (t.map row), .l (b.map row)] = some [.b (atL t b)] := by
 have h25 : TT.lim 53 [.l (t.map row), .i .i64 0, .l (b.map row), .i .i64 b.length, .i .i64 0] = _ := loop25 t b ht hb hf hg b.length 0 0 (by omega) (by omega)
 rw [List.drop_zero, List.drop_zero] at h25
 refine fn_lim rfl rfl ?_ rfl
 cases ha : atL t b <;> rw [ha] at h25 <;> simp at h25 <;> simp [h25]
theorem eqGs_ent (x y : Ent) : eqGs [1, 1] [.s x.1, .s x.2] [.s y.1, .s y.2] = some (decide (x = y)) := by
 simp only [eqGs, Option.map_some, Bool.and_true]
 congr 1
 rw [Bool.eq_iff_iff]
 simp -implicitDefEqProofs [Prod.ext_iff]
theorem loop32 (d e : List Ent) (hl : d.length = e.length) (hb : d.length ≤ 140737488351232) : ∀ m i : Nat, i + m = d.length →
  TT.lim 46 [.l (d.map ent), .l (e.map ent), .i .i64 d.length, .i .i64 i] = some (if d.drop i = e.drop i then [.i .i64 1] else [.i .i64 0])
 | 0, i, hi => by
  have h0 : d.drop i = [] := List.drop_eq_nil_of_le (by omega)
  have h1 : e.drop i = [] := List.drop_eq_nil_of_le (by omega)
  refine tree_lim rfl rfl ?_
  have h : ¬ ((i : Int) < d.length) := by omega
  simp -implicitDefEqProofs [h, h0, h1]
 | m + 1, i, hi => by
  have hlt : i < d.length := by omega
  have hlt2 : i < e.length := by omega
  have ih : TT.lim 46 [.l (d.map ent), .l (e.map ent), .i .i64 d.length, .i .i64 ((i : Int) + 1)] = _ := loop32 d e hl hb m (i + 1) (by omega)
  have hd : (d.drop i = e.drop i) ↔ (d[i] = e[i] ∧ d.drop (i + 1) = e.drop (i + 1)) := by
   rw [List.drop_eq_getElem_cons hlt, List.drop_eq_getElem_cons hlt2, List.cons.injEq]
  have hq := eqGs_ent d[i] e[i]
  refine tree_lim rfl rfl ?_
  have h : ((i : Int) < d.length) := by omega
  have hw := wrap64 (n := (i : Int) + 1) (by omega) (by omega)
  by_cases h1 : d[i] = e[i]
  ·have h2 : (d.drop i = e.drop i) ↔ (d.drop (i + 1) = e.drop (i + 1)) := by rw [hd]; simp [h1]
   have hq' : eqGs [1, 1] [.s d[i].1, .s d[i].2] [.s e[i].1, .s e[i].2] = some true := by rw [hq]; simp [h1]
   simp only [h2]
   simp -implicitDefEqProofs [h, hlt, hlt2, hq', hw, ih]
  ·have h2 : ¬ (d.drop i = e.drop i) := by rw [hd]; simp [h1]
   have hq' : eqGs [1, 1] [.s d[i].1, .s d[i].2] [.s e[i].1, .s e[i].2] = some false := by rw [hq]; simp [h1]
   rw [if_neg h2]
   simp -implicitDefEqProofs [h, hlt, hlt2, hq']
theorem equal31 (d e : List Ent) (hb : d.length ≤ 140737488351232) (hb2 : e.length ≤ 140737488351232) : TT.lim 45 [.l (d.map ent), .l (e.map ent)] = some [.b (decide (d = e))] := by
 refine fn_lim rfl rfl ?_ rfl
 by_cases hl : d.length = e.length
 ·have hl' : (d.length : Int) = (e.length : Int) := by omega
  have h32 : TT.lim 46 [.l (d.map ent), .l (e.map ent), .i .i64 d.length, .i .i64 0] = _ := loop32 d e hl hb d.length 0 (by omega)
  rw [List.drop_zero, List.drop_zero] at h32
  by_cases h : d = e
  ·rw [if_pos h] at h32
   have h' : (d = e) = True := eq_true h
   clear h
   rw [hl'] at h32
   simp -implicitDefEqProofs [hl', h32, h']
  ·rw [if_neg h] at h32
   rw [hl'] at h32
   simp -implicitDefEqProofs [hl', h32, h]
 ·have hl' : ¬ (d.length : Int) = (e.length : Int) := by omega
  have h : ¬ d = e := fun h => hl (by rw [h])
  simp -implicitDefEqProofs [hl', hl, h]
theorem rowEq30 (r s : Row) (hb : r.1.length ≤ 140737488351232) (hb2 : s.1.length ≤ 140737488351232) : TT.lim 44 [row r, row s] = some [.b (decide (r = s))] := by
 have k := equal31 r.1 s.1 hb hb2
 refine fn_lim rfl rfl ?_ rfl
 by_cases h : r.2 = s.2
 ·have : decide (r = s) = decide (r.1 = s.1) := by rw [Bool.eq_iff_iff]; simp [Prod.ext_iff, h]
  rw [this]
  simp -implicitDefEqProofs [h, k]
 ·have : decide (r = s) = false := by rw [decide_eq_false_iff_not]; intro e; exact h (by rw [e])
  rw [this]
  simp -implicitDefEqProofs [h]
theorem loop29 (a b : List Row) (hl : a.length = b.length) (hb : a.length ≤ 140737488351232) (h1 : ∀ r ∈ a, r.1.length ≤ 140737488351232) (h2 : ∀ r ∈ b, r.1.length ≤ 140737488351232) : ∀ m i : Nat, i + m = a.length →
  TT.lim 43 [.l (b.map row), .l (a.map row), .i .i64 a.length, .i .i64 i] = some (if a.drop i = b.drop i then [.i .i64 1] else [.i .i64 0])
 | 0, i, hi => by
  have h0 : a.drop i = [] := List.drop_eq_nil_of_le (by omega)
  have h1 : b.drop i = [] := List.drop_eq_nil_of_le (by omega)
  refine tree_lim rfl rfl ?_
  have h : ¬ ((i : Int) < a.length) := by omega
  simp -implicitDefEqProofs [h, h0, h1]
 | m + 1, i, hi => by
  have hlt : i < a.length := by omega
  have hlt2 : i < b.length := by omega
  have ih : TT.lim 43 [.l (b.map row), .l (a.map row), .i .i64 a.length, .i .i64 ((i : Int) + 1)] = _ := loop29 a b hl hb h1 h2 m (i + 1) (by omega)
  have hd : (a.drop i = b.drop i) ↔ (a[i] = b[i] ∧ a.drop (i + 1) = b.drop (i + 1)) := by
   rw [List.drop_eq_getElem_cons hlt, List.drop_eq_getElem_cons hlt2, List.cons.injEq]
  have k := rowEq30 a[i] b[i] (h1 _ (List.getElem_mem hlt)) (h2 _ (List.getElem_mem hlt2))
  have r1 : GV.g [.l (a[i].1.map ent), .i .u64 a[i].2] = row a[i] := rfl
  have r2 : GV.g [.l (b[i].1.map ent), .i .u64 b[i].2] = row b[i] := rfl
  refine tree_lim rfl rfl ?_
  have h : ((i : Int) < a.length) := by omega
  have hw := wrap64 (n := (i : Int) + 1) (by omega) (by omega)
  by_cases h3 : a[i] = b[i]
  ·have h4 : (a.drop i = b.drop i) ↔ (a.drop (i + 1) = b.drop (i + 1)) := by rw [hd]; simp [h3]
   simp only [h4]
   have k' : TT.lim 44 [row a[i], row b[i]] = some [.b true] := by rw [k]; simp [h3]
   simp -implicitDefEqProofs [h, hlt, hlt2, r1, r2, k', hw, ih]
  ·have h4 : ¬ (a.drop i = b.drop i) := by rw [hd]; simp [h3]
   rw [if_neg h4]
   have k' : TT.lim 44 [row a[i], row b[i]] = some [.b false] := by rw [k]; simp [h3]
   simp -implicitDefEqProofs [h, hlt, hlt2, r1, r2, k']
theorem same27 (a b : List Row) (hb : a.length ≤ 140737488351232) (hb2 : b.length ≤ 140737488351232) (h1 : ∀ r ∈ a, r.1.length ≤ 140737488351232) (h2 : ∀ r ∈ b, r.1.length ≤ 140737488351232) : TT.lim 41 [.l (a.map row), .l (b.map row)] = some [.b (decide (a = b))] := by
 have h28 : TT.lim 42 [.l (a.map row), .l (b.map row)] = some [.b (decide (a = b))] := by
  refine fn_lim rfl rfl ?_ rfl
  by_cases hl : a.length = b.length
  ·have hl' : (a.length : Int) = (b.length : Int) := by omega
   have h29 : TT.lim 43 [.l (b.map row), .l (a.map row), .i .i64 a.length, .i .i64 0] = _ := loop29 a b hl hb h1 h2 a.length 0 (by omega)
   rw [List.drop_zero, List.drop_zero] at h29
   rw [hl'] at h29
   by_cases h : a = b
   ·rw [if_pos h] at h29
    have h' : (a = b) = True := eq_true h
    clear h
    simp -implicitDefEqProofs [hl', h29, h']
   ·rw [if_neg h] at h29
    simp -implicitDefEqProofs [hl', h29, h]
  ·have hl' : ¬ (a.length : Int) = (b.length : Int) := by omega
   have h : ¬ a = b := fun h => hl (by rw [h])
   simp -implicitDefEqProofs [hl', hl, h]
 refine fn_lim rfl rfl ?_ rfl
 simp -implicitDefEqProofs [h28]
theorem bl_iff (a b : List UInt8) : Op.bytesLess a b = true ↔ a < b := by rw [bytesLess_lt]; simp
/-- Rows whose keys rise. -/
def Rise (l : List Row) : Prop := l.Pairwise fun a b => K a < K b
theorem atL_iff : ∀ (b t : List Row), Rise t → Rise b → (atL t b = true ↔ ∀ r ∈ b, ∃ s ∈ t, K s = K r ∧ r.2 ≤ s.2)
 | [], t, _, _ => by simp [atL]
 | r :: rs, t, ht, hb => by
  have hrs := List.pairwise_cons.1 hb
  have hdw := drop_adv (K r) t
  have htd : Rise (t.drop (adv (K r) t)) := ht.sublist (List.drop_sublist _ _)
  have hsub : ∀ s ∈ t.drop (adv (K r) t), s ∈ t := fun s hs => (List.drop_sublist _ _).subset hs
  -- what is not dropped
  have hkeep : ∀ (u : List Row), (∀ s ∈ u, s ∈ t.dropWhile (fun x => Op.bytesLess (K x) (K r)) ∨ K s < K r) → True := fun _ _ => trivial
  have hin : ∀ s ∈ t, ¬ K s < K r → s ∈ t.drop (adv (K r) t) := by
   intro s hs hn
   rw [hdw]
   clear hkeep hsub htd hdw ht
   induction t with
   | nil => simp at hs
   | cons a t ih =>
    rw [List.dropWhile_cons]
    split
    ·next ha =>
     rcases List.mem_cons.1 hs with rfl | hs
     ·exact absurd ((bl_iff _ _).1 ha) hn
     ·exact ih hs
    ·exact hs
  have hhead : ∀ s t', t.drop (adv (K r) t) = s :: t' → ¬ K s < K r := by
   intro s t' e
   rw [hdw] at e
   have := List.head?_dropWhile_not (fun x => Op.bytesLess (K x) (K r)) t
   rw [e] at this
   simp only [List.head?_cons, Option.all_some, Bool.not_eq_true'] at this
   intro hlt
   rw [(bl_iff _ _).2 hlt] at this
   cases this
  unfold atL
  cases e : t.drop (adv (K r) t) with
  | nil =>
   simp only [Bool.false_eq_true, false_iff]
   intro h
   obtain ⟨s, hs, hk, _⟩ := h r (by simp)
   have := hin s hs (by rw [hk]; exact List.lt_irrefl _)
   rw [e] at this; simp at this
  | cons s t' =>
   simp only [Bool.and_eq_true, decide_eq_true_iff]
   rw [e] at htd hsub hin
   rw [atL_iff rs (s :: t') htd hrs.2]
   have hst := List.pairwise_cons.1 htd
   constructor
   ·rintro ⟨⟨h1, h2⟩, h3⟩ x hx
    rcases List.mem_cons.1 hx with rfl | hx
    ·exact ⟨s, hsub s (by simp), h1, h2⟩
    ·obtain ⟨y, hy, h4⟩ := h3 x hx
     exact ⟨y, hsub y hy, h4⟩
   ·intro h
    obtain ⟨y, hy, hk, hn⟩ := h r (by simp)
    have hy2 := hin y hy (by rw [hk]; exact List.lt_irrefl _)
    have hys : y = s := by
     rcases List.mem_cons.1 hy2 with rfl | hy2
     ·rfl
     ·have := hst.1 y hy2
      rw [hk] at this
      exact absurd this (hhead s t' e)
    subst hys
    refine ⟨⟨hk, hn⟩, fun x hx => ?_⟩
    obtain ⟨z, hz, h4, h5⟩ := h x (by simp [hx])
    refine ⟨z, hin z hz ?_, h4, h5⟩
    rw [h4]
    exact fun hlt => List.lt_irrefl _ (List.lt_trans hlt (hrs.1 x hx))
theorem atL_trans {a b c : List Row} (ha : Rise a) (hb : Rise b) (hc : Rise c) (h1 : atL a b = true) (h2 : atL b c = true) : atL a c = true := by
 rw [atL_iff _ _ ha hb] at h1
 rw [atL_iff _ _ hb hc] at h2
 rw [atL_iff _ _ ha hc]
 intro r hr
 obtain ⟨s, hs, k1, n1⟩ := h2 r hr
 obtain ⟨u, hu, k2, n2⟩ := h1 s hs
 exact ⟨u, hu, k2.trans k1, Int.le_trans n1 n2⟩
theorem rise_eq : ∀ {a b : List Row}, Rise a → Rise b → (∀ r ∈ a, r ∈ b) → (∀ r ∈ b, r ∈ a) → a = b
 | [], [], _, _, _, _ => rfl
 | [], b :: _, _, _, _, h => absurd (h b (by simp)) (by simp)
 | a :: _, [], _, _, h, _ => absurd (h a (by simp)) (by simp)
 | x :: a, y :: b, ha, hb, h1, h2 => by
  have ha' := List.pairwise_cons.1 ha
  have hb' := List.pairwise_cons.1 hb
  have hxy : x = y := by
   rcases List.mem_cons.1 (h1 x (by simp)) with e | hx
   ·exact e
   ·rcases List.mem_cons.1 (h2 y (by simp)) with e | hy
    ·exact e.symm
    ·exact absurd (List.lt_trans (hb'.1 x hx) (ha'.1 y hy)) (List.lt_irrefl _)
  subst hxy
  rw [rise_eq ha'.2 hb'.2 (fun r hr => ?_) (fun r hr => ?_)]
  ·rcases List.mem_cons.1 (h1 r (by simp [hr])) with e | h
   ·subst e; exact absurd (ha'.1 _ hr) (List.lt_irrefl _)
   ·exact h
  ·rcases List.mem_cons.1 (h2 r (by simp [hr])) with e | h
   ·subst e; exact absurd (hb'.1 _ hr) (List.lt_irrefl _)
   ·exact h
theorem rise_key {a : List Row} (ha : Rise a) {r s : Row} (hr : r ∈ a) (hs : s ∈ a) (hk : K r = K s) : r = s := by
 induction a with
 | nil => simp at hr
 | cons x a ih =>
  have ha' := List.pairwise_cons.1 ha
  rcases List.mem_cons.1 hr with e1 | hr1 <;> rcases List.mem_cons.1 hs with e2 | hs1
  ·rw [e1, e2]
  ·have := ha'.1 s hs1; rw [← e1, hk] at this; exact absurd this (List.lt_irrefl _)
  ·have := ha'.1 r hr1; rw [← e2, hk] at this; exact absurd this (List.lt_irrefl _)
  ·exact ih ha'.2 hr1 hs1
theorem ents_of {cs : List GV} {r0 : List GV} (h : GTy.hasL [.list true [.str, .str], .int .u64] cs) : ∃ r : Row, (Ents r.1 ∧ 0 ≤ r.2 ∧ r.2 < 18446744073709551616) ∧ GV.g cs = row r := by
 obtain ⟨g, l, rfl, h1, h⟩ := hasL_cons h
 obtain ⟨n, l, rfl, h2, h⟩ := hasL_cons h
 obtain rfl := hasL_nil h
 obtain ⟨n, rfl, n1, n2⟩ := has_u64 h2
 obtain ⟨xs, rfl, h3, h4⟩ := has_list h1
 obtain ⟨d, hd, rfl⟩ : ∃ d : List Ent, (∀ x ∈ d, x.1.length ≤ 140737488351232 ∧ x.2.length ≤ 140737488351232) ∧ xs = d.map ent := list_map fun x hx => by
  obtain ⟨k1, k2⟩ := h4 x hx
  cases x <;> simp [GV.scalar] at k2
  obtain ⟨a, l, e1, a1, k1⟩ := hasL_cons k1
  obtain ⟨b, l, rfl, b1, k1⟩ := hasL_cons k1
  obtain rfl := hasL_nil k1
  obtain ⟨s, rfl, s1⟩ := has_str a1
  obtain ⟨u, rfl, u1⟩ := has_str b1
  simp only [cells_g] at e1
  subst e1
  exact ⟨(s, u), ⟨Nat.le_trans s1 (by decide), Nat.le_trans u1 (by decide)⟩, rfl⟩
 exact ⟨(d, n), ⟨⟨by have := Nat.le_trans h3 (by decide : reachBytes ≤ 140737488351232); simpa using this, hd⟩, n1, n2⟩, rfl⟩
theorem rows_of {g : GV} (h : (GTy.list true [.list true [.str, .str], .int .u64]).has g) : ∃ l : List Row, Rows l ∧ g = .l (l.map row) := by
 obtain ⟨xs, rfl, h1, h2⟩ := has_list h
 obtain ⟨l, hl, rfl⟩ : ∃ l : List Row, (∀ r ∈ l, Ents r.1 ∧ 0 ≤ r.2 ∧ r.2 < 18446744073709551616) ∧ xs = l.map row := list_map fun x hx => by
  obtain ⟨k1, k2⟩ := h2 x hx
  cases x <;> simp [GV.scalar] at k2
  obtain ⟨r, hr, e⟩ := ents_of (r0 := []) k1
  exact ⟨r, hr, e⟩
 exact ⟨l, ⟨by have := Nat.le_trans h1 (by decide : reachBytes ≤ 140737488351232); simpa using this, hl⟩, rfl⟩
def chkR : Option (List UInt8) → List Row → Int
 | _, [] => 0
 | p, r :: rs => if rowChk r ≠ 0 then rowChk r else match p with
  | none => chkR (some (K r)) rs
  | some k => if K r = k then 14 else if Op.bytesLess (K r) k = true then 7 else chkR (some (K r)) rs
theorem loop38 (t : List Row) (ht : Rows t) (hf : ∀ r ∈ t, few12 r.1 = true) : ∀ (m i : Nat) (p : List UInt8), i + m = t.length →
  TT.lim 20 [.s p, .l (t.map row), .i .i64 t.length, .i .i64 i] = some (tagged (chkR (if i = 0 then none else some p) (t.drop i)))
 | 0, i, p, hi => by
  have h0 : t.drop i = [] := List.drop_eq_nil_of_le (by omega)
  refine tree_lim rfl rfl ?_
  have h : ¬ ((i : Int) < t.length) := by omega
  simp -implicitDefEqProofs [h, h0, chkR, tagged]
 | m + 1, i, p, hi => by
  have hlt : i < t.length := by omega
  have hr := ht.2 t[i] (List.getElem_mem hlt)
  have k15 := check15 t[i] hr.1
  have k6 := key6 t[i].1 (hf _ (List.getElem_mem hlt))
  have hrow : GV.g [.l (t[i].1.map ent), .i .u64 t[i].2] = row t[i] := rfl
  have ih : TT.lim 20 [.s (keyF t[i].1), .l (t.map row), .i .i64 t.length, .i .i64 ((i : Int) + 1)] = _ := loop38 t ht hf m (i + 1) (keyF t[i].1) (by omega)
  rw [if_neg (by omega)] at ih
  rw [List.drop_eq_getElem_cons hlt]
  refine tree_lim rfl rfl ?_
  have h : ((i : Int) < t.length) := by omega
  have hw := wrap64 (n := (i : Int) + 1) (by omega) (by have := ht.1; omega)
  by_cases h1 : rowChk t[i] = 0
  rotate_left
  ·simp -implicitDefEqProofs [-List.getElem_cons_drop, h, hlt, hrow, k15, h1, chkR, tagged]
  by_cases h0 : i = 0
  ·subst h0
   simp only [Int.natCast_zero, Int.zero_add] at hw ih
   simp -implicitDefEqProofs [-List.getElem_cons_drop, h, hlt, hrow, k15, h1, k6, hw, chkR]
   have hn : (0 : Int) < (t.length : Int) := by omega
   simpa using ih
  ·have hi0 : 0 < i := by omega
   by_cases h2 : keyF t[i].1 = p
   ·have h2' : (keyF t[i].1 = p) = True := eq_true h2
    clear h2
    simp -implicitDefEqProofs [-List.getElem_cons_drop, h, hlt, hrow, k15, h1, k6, hi0, h0, h2', chkR, tagged]
   ·cases h3 : Op.bytesLess (keyF t[i].1) p with
    | true => simp [-List.getElem_cons_drop, h, hlt, hrow, k15, h1, k6, hi0, h0, h2, h3, chkR, tagged]
    | false => simp [-List.getElem_cons_drop, h, hlt, hrow, k15, h1, k6, hi0, h0, h2, h3, hw, ih, chkR]
def checkT (t : List Row) : Int := if 256 < t.length then 13 else chkR none t
theorem check37 (t : List Row) (ht : Rows t) (hf : ∀ r ∈ t, few12 r.1 = true) : TT.lim 19 [.l (t.map row)] = some [.i .i64 (checkT t)] := by
 have h38 : TT.lim 20 [.s [], .l (t.map row), .i .i64 t.length, .i .i64 0] = _ := loop38 t ht hf t.length 0 [] (by omega)
 rw [if_pos rfl, List.drop_zero] at h38
 refine fn_lim rfl rfl ?_ rfl
 unfold checkT
 by_cases h1 : 256 < t.length
 ·have h1' : (256 : Int) < (t.length : Int) := by omega
  simp -implicitDefEqProofs [h1, h1']
 ·have h1' : ¬ (256 : Int) < (t.length : Int) := by omega
  by_cases h2 : chkR none t = 0
  ·simp only [tagged, h2, if_true] at h38
   simp -implicitDefEqProofs [h1, h1', h38, h2]
  ·simp only [tagged, h2, if_false] at h38
   simp -implicitDefEqProofs [h1, h1', h38, h2]
theorem chkR_rise : ∀ {t : List Row} (p : Option (List UInt8)), Rise t → (∀ r ∈ t, rowChk r = 0) → (∀ k, p = some k → ∀ r ∈ t, k < K r) → chkR p t = 0
 | [], p, _, _, _ => by cases p <;> rfl
 | r :: t, p, ht, hc, hp => by
  have ht' := List.pairwise_cons.1 ht
  have ih := chkR_rise (t := t) (some (K r)) ht'.2 (fun x hx => hc x (by simp [hx])) (fun k hk x hx => by cases hk; exact ht'.1 x hx)
  unfold chkR
  rw [if_neg (by simp [hc r (by simp)])]
  cases p with
  | none => exact ih
  | some k =>
   have hk := hp k rfl r (by simp)
   have h1 : ¬ K r = k := fun e => by rw [e] at hk; exact List.lt_irrefl _ hk
   have h2 : ¬ Op.bytesLess (K r) k = true := fun e => List.lt_irrefl _ (List.lt_trans hk ((bl_iff _ _).1 e))
   simp only
   rw [if_neg h1, if_neg h2]
   exact ih
theorem Rows.perm {l m : List Row} (h : l.Perm m) (hl : Rows l) : Rows m := ⟨by rw [← h.length_eq]; exact hl.1, fun r hr => hl.2 r (h.mem_iff.2 hr)⟩
def cmpK (a b : List UInt8) : Int := if a < b then -1 else if b < a then 1 else 0
theorem compareBytes_eq : ∀ a b : List UInt8, Lib.compareBytes a b = cmpK a b
 | [], [] => by simp [Lib.compareBytes, cmpK]
 | [], _ :: _ => by simp [Lib.compareBytes, cmpK]
 | _ :: _, [] => by simp [Lib.compareBytes, cmpK]
 | x :: a, y :: b => by
  unfold Lib.compareBytes
  rw [compareBytes_eq a b]
  unfold cmpK
  simp only [List.cons_lt_cons_iff]
  by_cases h1 : x < y
  ·simp -implicitDefEqProofs [h1]
  ·by_cases h2 : y < x
   ·have hne : ¬ x = y := fun e => by subst e; exact UInt8.lt_irrefl _ h2
    simp -implicitDefEqProofs [h1, h2, hne]
   ·have he : x = y := UInt8.le_antisymm (UInt8.not_lt.1 h2) (UInt8.not_lt.1 h1)
    subst he
    simp -implicitDefEqProofs [UInt8.lt_irrefl]
theorem cmpB_eq (a b : List UInt8) : cmpB a b = cmpK a b := (Lib.cmp_eq _ _).trans (compareBytes_eq a b)
theorem cmp45 (a b : List UInt8) : TT.lim 33 [.s a, .s b] = some [.i .i64 (cmpK a b)] := prim_lim rfl (by rw [← cmpB_eq]; rfl)
theorem cmp44 (d e : List Ent) (hd : few12 d = true) (he : few12 e = true) : TT.lim 32 [.l (d.map ent), .l (e.map ent)] = some [.i .i64 (cmpK (keyF d) (keyF e))] := by
 have k1 := key6 d hd
 have k2 := key6 e he
 have k3 := cmp45 (keyF d) (keyF e)
 refine fn_lim rfl rfl ?_ rfl
 simp -implicitDefEqProofs [k1, k2, k3]
theorem add46 (x y : Int) (h1 : 0 ≤ x) (h2 : 0 ≤ y) : TT.lim 34 [.i .u64 x, .i .u64 y, .i .u64 0] = some [.i .u64 ((x + y) % 18446744073709551616), .i .u64 ((x + y) / 18446744073709551616)] := prim_lim rfl (by
 unfold add64P
 simp only
 rw [if_pos ⟨h1, h2, by omega, by omega⟩]
 simp only [Int.add_zero])
def val : List Row → List UInt8 → Int
 | [], _ => 0
 | r :: rs, k => if K r = k then r.2 else val rs k
def Pos (t : List Row) : Prop := ∀ r ∈ t, 0 < r.2 ∧ r.2 < 18446744073709551616
theorem val_none : ∀ {t : List Row} {k : List UInt8}, (∀ r ∈ t, K r ≠ k) → val t k = 0
 | [], _, _ => rfl
 | r :: t, k, h => by unfold val; rw [if_neg (h r (by simp))]; exact val_none fun x hx => h x (by simp [hx])
theorem val_mem : ∀ {t : List Row}, Rise t → ∀ r ∈ t, val t (K r) = r.2
 | [], _, r, h => by simp at h
 | x :: t, ht, r, h => by
  have ht' := List.pairwise_cons.1 ht
  unfold val
  rcases List.mem_cons.1 h with rfl | h
  ·rw [if_pos rfl]
  ·rw [if_neg fun e => by have := ht'.1 r h; rw [e] at this; exact List.lt_irrefl _ this]
   exact val_mem ht'.2 r h
theorem val_cases : ∀ (t : List Row) (k : List UInt8), (∃ r ∈ t, K r = k ∧ val t k = r.2) ∨ ((∀ r ∈ t, K r ≠ k) ∧ val t k = 0)
 | [], k => .inr ⟨by simp, rfl⟩
 | x :: t, k => by
  unfold val
  by_cases h : K x = k
  ·exact .inl ⟨x, by simp, h, by rw [if_pos h]⟩
  ·rw [if_neg h]
   rcases val_cases t k with ⟨r, h1, h2, h3⟩ | ⟨h1, h2⟩
   ·exact .inl ⟨r, by simp [h1], h2, h3⟩
   ·refine .inr ⟨fun r hr => ?_, h2⟩
    rcases List.mem_cons.1 hr with rfl | hr
    ·exact h
    ·exact h1 r hr
theorem val_nonneg {t : List Row} (hp : Pos t) (k : List UInt8) : 0 ≤ val t k ∧ val t k < 18446744073709551616 := by
 rcases val_cases t k with ⟨r, h1, h2, h3⟩ | ⟨h1, h2⟩
 ·have := hp r h1; omega
 ·omega
theorem val_pos {t : List Row} (hp : Pos t) {k : List UInt8} (h : 0 < val t k) : ∃ r ∈ t, K r = k ∧ val t k = r.2 := by
 rcases val_cases t k with h1 | ⟨h1, h2⟩
 ·exact h1
 ·omega
theorem val_ext {a b : List Row} (ha : Rise a) (hb : Rise b) (pa : Pos a) (pb : Pos b) (h : ∀ k, val a k = val b k) : a = b := by
 have key : ∀ {a b : List Row}, Rise a → Rise b → Pos a → Pos b → (∀ k, val a k = val b k) → ∀ r ∈ a, r ∈ b := by
  intro a b ha hb pa pb h r hr
  have h1 := val_mem ha r hr
  have h2 := (pa r hr).1
  obtain ⟨s, hs, h3, h4⟩ := val_pos pb (k := K r) (by rw [← h]; omega)
  have : s = r := Prod.ext (keyF_inj h3) (by rw [← h4, ← h, h1])
  rw [← this]; exact hs
 exact rise_eq ha hb (key ha hb pa pb h) (key hb ha pb pa fun k => (h k).symm)
def mergeR : List Row → List Row → Option (List Row)
 | [], b => some b
 | x :: a, [] => some (x :: a)
 | x :: a, y :: b =>
  if K x < K y then (mergeR a (y :: b)).map (x :: ·)
  else if K y < K x then (mergeR (x :: a) b).map (y :: ·)
  else if x.2 + y.2 < 18446744073709551616 then (mergeR a b).map ((x.1, x.2 + y.2) :: ·) else none
termination_by a b => a.length + b.length
def Keys (a b m : List Row) : Prop := ∀ r ∈ m, ∃ s, (s ∈ a ∨ s ∈ b) ∧ s.1 = r.1
theorem merge_some : ∀ (a b : List Row) {m : List Row}, Rise a → Rise b → Pos a → Pos b → mergeR a b = some m → Rise m ∧ (∀ k, val m k = val a k + val b k) ∧ Keys a b m ∧ Pos m := by
 intro a b
 induction a, b using mergeR.induct with
 | case1 b =>
  intro m ha hb pa pb h
  rw [mergeR] at h; cases h
  exact ⟨hb, fun k => by simp [val], fun r hr => ⟨r, .inr hr, rfl⟩, pb⟩
 | case2 x a =>
  intro m ha hb pa pb h
  rw [mergeR] at h; cases h
  exact ⟨ha, fun k => by simp [val], fun r hr => ⟨r, .inl hr, rfl⟩, pa⟩
 | case3 x a y b hlt ih =>
  intro m ha hb pa pb h
  rw [mergeR, if_pos hlt] at h
  obtain ⟨m', h', rfl⟩ := Option.map_eq_some_iff.1 h
  have ha' := List.pairwise_cons.1 ha
  have hb' := List.pairwise_cons.1 hb
  obtain ⟨h1, h2, h3, h4⟩ := ih ha'.2 hb (fun r hr => pa r (by simp [hr])) pb h'
  have hx : ∀ s, s ∈ a ∨ s ∈ y :: b → K x < K s := by
   rintro s (hs | hs)
   ·exact ha'.1 s hs
   ·rcases List.mem_cons.1 hs with rfl | hs
    ·exact hlt
    ·exact List.lt_trans hlt (hb'.1 s hs)
  refine ⟨List.Pairwise.cons (fun r hr => ?_) h1, fun k => ?_, fun r hr => ?_, fun r hr => ?_⟩
  ·obtain ⟨s, hs, e⟩ := h3 r hr
   have := hx s hs
   show K x < keyF r.1
   rw [← e]; exact this
  ·show (if K x = k then x.2 else val m' k) = (if K x = k then x.2 else val a k) + val (y :: b) k
   split
   ·next e =>
    rw [val_none (t := y :: b) fun r hr e2 => by have := hx r (.inr hr); rw [e, e2] at this; exact List.lt_irrefl _ this]
    omega
   ·exact h2 k
  ·rcases List.mem_cons.1 hr with rfl | hr
   ·exact ⟨r, .inl (by simp), rfl⟩
   ·obtain ⟨s, hs, e⟩ := h3 r hr
    exact ⟨s, hs.imp (fun h => by simp [h]) id, e⟩
  ·rcases List.mem_cons.1 hr with rfl | hr
   ·exact pa r (by simp)
   ·exact h4 r hr
 | case4 x a y b hlt hgt ih =>
  intro m ha hb pa pb h
  rw [mergeR, if_neg hlt, if_pos hgt] at h
  obtain ⟨m', h', rfl⟩ := Option.map_eq_some_iff.1 h
  have ha' := List.pairwise_cons.1 ha
  have hb' := List.pairwise_cons.1 hb
  obtain ⟨h1, h2, h3, h4⟩ := ih ha hb'.2 pa (fun r hr => pb r (by simp [hr])) h'
  have hx : ∀ s, s ∈ x :: a ∨ s ∈ b → K y < K s := by
   rintro s (hs | hs)
   ·rcases List.mem_cons.1 hs with rfl | hs
    ·exact hgt
    ·exact List.lt_trans hgt (ha'.1 s hs)
   ·exact hb'.1 s hs
  refine ⟨List.Pairwise.cons (fun r hr => ?_) h1, fun k => ?_, fun r hr => ?_, fun r hr => ?_⟩
  ·obtain ⟨s, hs, e⟩ := h3 r hr
   have := hx s hs
   show K y < keyF r.1
   rw [← e]; exact this
  ·show (if K y = k then y.2 else val m' k) = val (x :: a) k + (if K y = k then y.2 else val b k)
   split
   ·next e =>
    rw [val_none (t := x :: a) fun r hr e2 => by have := hx r (.inl hr); rw [e, e2] at this; exact List.lt_irrefl _ this]
    omega
   ·exact h2 k
  ·rcases List.mem_cons.1 hr with rfl | hr
   ·exact ⟨r, .inr (by simp), rfl⟩
   ·obtain ⟨s, hs, e⟩ := h3 r hr
    exact ⟨s, hs.imp id (fun h => by simp [h]), e⟩
  ·rcases List.mem_cons.1 hr with rfl | hr
   ·exact pb r (by simp)
   ·exact h4 r hr
 | case5 x a y b hlt hgt hs ih =>
  intro m ha hb pa pb h
  rw [mergeR, if_neg hlt, if_neg hgt, if_pos hs] at h
  obtain ⟨m', h', rfl⟩ := Option.map_eq_some_iff.1 h
  have ha' := List.pairwise_cons.1 ha
  have hb' := List.pairwise_cons.1 hb
  have he : K x = K y := List.le_antisymm (List.not_lt.1 hgt) (List.not_lt.1 hlt)
  obtain ⟨h1, h2, h3, h4⟩ := ih ha'.2 hb'.2 (fun r hr => pa r (by simp [hr])) (fun r hr => pb r (by simp [hr])) h'
  have hx : ∀ s, s ∈ a ∨ s ∈ b → K x < K s := by
   rintro s (hs | hs)
   ·exact ha'.1 s hs
   ·rw [he]; exact hb'.1 s hs
  refine ⟨List.Pairwise.cons (fun r hr => ?_) h1, fun k => ?_, fun r hr => ?_, fun r hr => ?_⟩
  ·obtain ⟨s, hs, e⟩ := h3 r hr
   have := hx s hs
   show keyF x.1 < keyF r.1
   rw [← e]; exact this
  ·show (if K x = k then x.2 + y.2 else val m' k) = (if K x = k then x.2 else val a k) + (if K y = k then y.2 else val b k)
   rw [he]
   split
   ·rfl
   ·exact h2 k
  ·rcases List.mem_cons.1 hr with rfl | hr
   ·exact ⟨x, .inl (by simp), rfl⟩
   ·obtain ⟨s, hs, e⟩ := h3 r hr
    exact ⟨s, hs.imp (fun h => by simp [h]) (fun h => by simp [h]), e⟩
  ·rcases List.mem_cons.1 hr with rfl | hr
   ·have q1 := pa x (by simp); have q2 := pb y (by simp)
    exact ⟨by simp only; omega, hs⟩
   ·exact h4 r hr
 | case6 x a y b hlt hgt hs =>
  intro m ha hb pa pb h
  rw [mergeR, if_neg hlt, if_neg hgt, if_neg hs] at h; cases h
theorem val_above {t : List Row} {k : List UInt8} (h : ∀ r ∈ t, k < K r) : val t k = 0 := val_none fun r hr e => by have := h r hr; rw [e] at this; exact List.lt_irrefl _ this
theorem merge_none : ∀ (a b : List Row), Rise a → Rise b → mergeR a b = none → ∃ k, 18446744073709551616 ≤ val a k + val b k := by
 intro a b
 induction a, b using mergeR.induct with
 | case1 b => intro ha hb h; rw [mergeR] at h; cases h
 | case2 x a => intro ha hb h; rw [mergeR] at h; cases h
 | case3 x a y b hlt ih =>
  intro ha hb h
  rw [mergeR, if_pos hlt] at h
  have ha' := List.pairwise_cons.1 ha
  have hb' := List.pairwise_cons.1 hb
  obtain ⟨k, hk⟩ := ih ha'.2 hb (Option.map_eq_none_iff.1 h)
  refine ⟨k, ?_⟩
  by_cases e : K x = k
  ·exfalso
   subst e
   rw [val_above ha'.1, val_above (t := y :: b) fun r hr => ?_] at hk
   ·omega
   ·rcases List.mem_cons.1 hr with rfl | hr
    ·exact hlt
    ·exact List.lt_trans hlt (hb'.1 r hr)
  ·show _ ≤ (if K x = k then x.2 else val a k) + _
   rw [if_neg e]; exact hk
 | case4 x a y b hlt hgt ih =>
  intro ha hb h
  rw [mergeR, if_neg hlt, if_pos hgt] at h
  have ha' := List.pairwise_cons.1 ha
  have hb' := List.pairwise_cons.1 hb
  obtain ⟨k, hk⟩ := ih ha hb'.2 (Option.map_eq_none_iff.1 h)
  refine ⟨k, ?_⟩
  by_cases e : K y = k
  ·exfalso
   subst e
   rw [val_above hb'.1, val_above (t := x :: a) fun r hr => ?_] at hk
   ·omega
   ·rcases List.mem_cons.1 hr with rfl | hr
    ·exact hgt
    ·exact List.lt_trans hgt (ha'.1 r hr)
  ·show _ ≤ _ + (if K y = k then y.2 else val b k)
   rw [if_neg e]; exact hk
 | case5 x a y b hlt hgt hs ih =>
  intro ha hb h
  rw [mergeR, if_neg hlt, if_neg hgt, if_pos hs] at h
  have ha' := List.pairwise_cons.1 ha
  have hb' := List.pairwise_cons.1 hb
  have he : K x = K y := List.le_antisymm (List.not_lt.1 hgt) (List.not_lt.1 hlt)
  obtain ⟨k, hk⟩ := ih ha'.2 hb'.2 (Option.map_eq_none_iff.1 h)
  refine ⟨k, ?_⟩
  by_cases e : K x = k
  ·exfalso
   subst e
   rw [val_above ha'.1, val_above (t := b) fun r hr => by rw [he]; exact hb'.1 r hr] at hk
   omega
  ·show _ ≤ (if K x = k then x.2 else val a k) + (if K y = k then y.2 else val b k)
   rw [if_neg e, ← he, if_neg e]; exact hk
 | case6 x a y b hlt hgt hs =>
  intro ha hb h
  have he : K x = K y := List.le_antisymm (List.not_lt.1 hgt) (List.not_lt.1 hlt)
  refine ⟨K x, ?_⟩
  show _ ≤ (if K x = K x then x.2 else val a _) + (if K y = K x then y.2 else val b _)
  rw [if_pos rfl, if_pos he.symm]; omega
/-- Lengths, by keys. -/
theorem rise_len : ∀ {a b : List Row}, Rise a → Rise b → (∀ r ∈ a, ∃ s ∈ b, K s = K r) → a.length ≤ b.length
 | [], _, _, _, _ => Nat.zero_le _
 | _ :: _, [], _, _, h => by obtain ⟨s, hs, _⟩ := h _ (List.mem_cons_self ..); simp at hs
 | x :: a, y :: b, ha, hb, h => by
  have ha' := List.pairwise_cons.1 ha
  have hb' := List.pairwise_cons.1 hb
  have hxy : K y = K x ∨ K y < K x := by
   obtain ⟨s, hs, e⟩ := h x (by simp)
   rcases List.mem_cons.1 hs with rfl | hs
   ·exact .inl e
   ·right; rw [← e]; exact hb'.1 s hs
  have := rise_len ha'.2 hb'.2 fun r hr => by
   obtain ⟨s, hs, e⟩ := h r (by simp [hr])
   rcases List.mem_cons.1 hs with rfl | hs
   ·have h1 := ha'.1 r hr
    rw [← e] at h1
    rcases hxy with e2 | e2
    ·rw [e2] at h1; exact absurd h1 (List.lt_irrefl _)
    ·exact absurd (List.lt_trans h1 e2) (List.lt_irrefl _)
   ·exact ⟨s, hs, e⟩
  simp only [List.length_cons]; omega
theorem lsub_tail (x : GV) (l : List Row) (n : Int) (hx : x.cells.length = 2) (hn : n = l.length + 1) : lsub3 2 (some (.l (x :: l.map row))) (some (.i .i64 1)) (some (.i .i64 n)) = some (.l (l.map row)) := by
 subst hn
 rw [lsub3_i, if_pos ⟨by omega, by omega, by simp, by rw [List.all_cons]; simp [hx, row_cells]⟩]
 ·congr 2
  have h1 : ((l.length : Int) + 1).toNat = l.length + 1 := by omega
  rw [h1, List.take_of_length_le (by simp)]; rfl
def outM (acc : List Row) : Option (List Row) → List GV
 | some m => [.i .i64 1, .l ((acc ++ m).map row)]
 | none => [.i .i64 0]
theorem few40 {d : List Ent} (h : few12 d = true) : d.length ≤ 40 := by
 unfold few12 at h; simp at h; omega
theorem cmpK_lt {a b : List UInt8} (h : a < b) : cmpK a b = -1 := by unfold cmpK; rw [if_pos h]
theorem cmpK_gt {a b : List UInt8} (h1 : ¬ a < b) (h : b < a) : cmpK a b = 1 := by unfold cmpK; rw [if_neg h1, if_pos h]
theorem cmpK_eq {a b : List UInt8} (h1 : ¬ a < b) (h : ¬ b < a) : cmpK a b = 0 := by unfold cmpK; rw [if_neg h1, if_neg h]
def Few (t : List Row) : Prop := ∀ r ∈ t, few12 r.1 = true
set_option maxHeartbeats 4000000 in
theorem loop43 : ∀ (n : Nat) (a b acc : List Row), a.length + b.length ≤ n → acc.length + a.length + b.length ≤ 1000 → Few a → Few b → (∀ r ∈ a, 0 ≤ r.2 ∧ r.2 < 18446744073709551616) → (∀ r ∈ b, 0 ≤ r.2 ∧ r.2 < 18446744073709551616) →
  TT.lim 30 [.l (a.map row), .l (b.map row), .l (acc.map row)] = some (outM acc (mergeR a b)) := by
 intro n
 induction n with
 | zero =>
  intro a b acc hn hb fa fb va vb
  obtain rfl : a = [] := List.eq_nil_of_length_eq_zero (by omega)
  obtain rfl : b = [] := List.eq_nil_of_length_eq_zero (by omega)
  rw [mergeR]
  refine tree_lim rfl rfl ?_
  simp -implicitDefEqProofs [outM]
 | succ n ih =>
  intro a b acc hn hb fa fb va vb
  cases a with
  | nil =>
   cases b with
   | nil =>
    rw [mergeR]
    refine tree_lim rfl rfl ?_
    simp -implicitDefEqProofs [outM]
   | cons y b =>
    simp only [List.length_nil, List.length_cons, Nat.zero_add] at hn hb
    have ih' := ih [] b (acc ++ [y]) (by simp; omega) (by simp; omega) fa (fun r hr => fb r (by simp [hr])) va (fun r hr => vb r (by simp [hr]))
    rw [mergeR] at ih' ⊢
    simp only [outM, List.append_assoc, List.singleton_append, List.map_append, List.map_cons, List.map_nil] at ih' ⊢
    have kc := clone23 y.1 (few40 (fb y (by simp)))
    have hrow : GV.g [.l (y.1.map ent), .i .u64 y.2] = row y := rfl
    have hok : (row y).elemOk 2 = true := rfl
    have hl := lsub_tail (row y) b ((b.length : Int) + 1) rfl rfl
    have hbb : 2 * (acc.length + 1) * 32 ≤ 281474976710656 ∧ acc.length + 1 ≤ 281474976710656 := by omega
    have hp : (0 : Int) < (b.length : Int) + 1 := by omega
    have hp2 : ¬ ((b.length : Int) + 1 = 0) := by omega
    refine tree_lim rfl rfl ?_
    simp -implicitDefEqProofs [-lsub3_i, kc, hrow, hok, hl, hbb, hp, hp2, ih']
  | cons x a =>
   cases b with
   | nil =>
    simp only [List.length_nil, List.length_cons, Nat.add_zero] at hn hb
    have ih' := ih a [] (acc ++ [x]) (by simp; omega) (by simp; omega) (fun r hr => fa r (by simp [hr])) fb (fun r hr => va r (by simp [hr])) vb
    have hm : mergeR a [] = some a := by cases a <;> rw [mergeR]
    rw [hm] at ih'
    rw [mergeR]
    simp only [outM, List.append_assoc, List.singleton_append, List.map_append, List.map_cons, List.map_nil] at ih' ⊢
    have kc := clone23 x.1 (few40 (fa x (by simp)))
    have hrow : GV.g [.l (x.1.map ent), .i .u64 x.2] = row x := rfl
    have hok : (row x).elemOk 2 = true := rfl
    have hl := lsub_tail (row x) a ((a.length : Int) + 1) rfl rfl
    have hbb : 2 * (acc.length + 1) * 32 ≤ 281474976710656 ∧ acc.length + 1 ≤ 281474976710656 := by omega
    have hp : (0 : Int) < (a.length : Int) + 1 := by omega
    have hp2 : ¬ ((a.length : Int) + 1 = 0) := by omega
    refine tree_lim rfl rfl ?_
    simp -implicitDefEqProofs [-lsub3_i, kc, hrow, hok, hl, hbb, hp, hp2, ih']
   | cons y b =>
    simp only [List.length_cons] at hn hb
    have fx := fa x (by simp)
    have fy := fb y (by simp)
    have kcx := clone23 x.1 (few40 fx)
    have kcy := clone23 y.1 (few40 fy)
    have hrx : GV.g [.l (x.1.map ent), .i .u64 x.2] = row x := rfl
    have hry : GV.g [.l (y.1.map ent), .i .u64 y.2] = row y := rfl
    have hrs : GV.g [.l (x.1.map ent), .i .u64 (x.2 + y.2)] = row (x.1, x.2 + y.2) := rfl
    have hok : ∀ r : Row, (row r).elemOk 2 = true := fun r => rfl
    have hlx := lsub_tail (row x) a ((a.length : Int) + 1) rfl rfl
    have hly := lsub_tail (row y) b ((b.length : Int) + 1) rfl rfl
    have hbb : 2 * (acc.length + 1) * 32 ≤ 281474976710656 ∧ acc.length + 1 ≤ 281474976710656 := by omega
    have hp : (0 : Int) < (a.length : Int) + 1 := by omega
    have hp2 : ¬ ((a.length : Int) + 1 = 0) := by omega
    have hq : (0 : Int) < (b.length : Int) + 1 := by omega
    have hq2 : ¬ ((b.length : Int) + 1 = 0) := by omega
    have kcmp := cmp44 x.1 y.1 fx fy
    have kadd := add46 x.2 y.2 (va x (by simp)).1 (vb y (by simp)).1
    have vx := va x (by simp)
    have vy := vb y (by simp)
    by_cases h1 : K x < K y
    ·have ih' := ih a (y :: b) (acc ++ [x]) (by simp; omega) (by simp; omega) (fun r hr => fa r (by simp [hr])) fb (fun r hr => va r (by simp [hr])) vb
     rw [mergeR, if_pos h1]
     rw [cmpK_lt h1] at kcmp
     have e : outM (acc ++ [x]) (mergeR a (y :: b)) = outM acc ((mergeR a (y :: b)).map (x :: ·)) := by cases mergeR a (y :: b) <;> simp [outM]
     rw [e] at ih'
     generalize outM acc ((mergeR a (y :: b)).map (x :: ·)) = out at ih' ⊢
     simp only [List.map_append, List.map_cons, List.map_nil] at ih'
     refine tree_lim rfl rfl ?_
     simp -implicitDefEqProofs [-lsub3_i, kcx, kcy, hrx, hry, hok, hlx, hly, hbb, hp, hp2, hq, hq2, kcmp, ih']
    by_cases h2 : K y < K x
    ·have ih' := ih (x :: a) b (acc ++ [y]) (by simp; omega) (by simp; omega) fa (fun r hr => fb r (by simp [hr])) va (fun r hr => vb r (by simp [hr]))
     rw [mergeR, if_neg h1, if_pos h2]
     rw [cmpK_gt h1 h2] at kcmp
     have e : outM (acc ++ [y]) (mergeR (x :: a) b) = outM acc ((mergeR (x :: a) b).map (y :: ·)) := by cases mergeR (x :: a) b <;> simp [outM]
     rw [e] at ih'
     generalize outM acc ((mergeR (x :: a) b).map (y :: ·)) = out at ih' ⊢
     simp only [List.map_append, List.map_cons, List.map_nil] at ih'
     refine tree_lim rfl rfl ?_
     simp -implicitDefEqProofs [-lsub3_i, kcx, kcy, hrx, hry, hok, hlx, hly, hbb, hp, hp2, hq, hq2, kcmp, ih']
    rw [mergeR, if_neg h1, if_neg h2]
    rw [cmpK_eq h1 h2] at kcmp
    by_cases h3 : x.2 + y.2 < 18446744073709551616
    ·have ih' := ih a b (acc ++ [(x.1, x.2 + y.2)]) (by omega) (by simp; omega) (fun r hr => fa r (by simp [hr])) (fun r hr => fb r (by simp [hr])) (fun r hr => va r (by simp [hr])) (fun r hr => vb r (by simp [hr]))
     rw [if_pos h3]
     have e : outM (acc ++ [(x.1, x.2 + y.2)]) (mergeR a b) = outM acc ((mergeR a b).map ((x.1, x.2 + y.2) :: ·)) := by cases mergeR a b <;> simp [outM]
     rw [e] at ih'
     generalize outM acc ((mergeR a b).map ((x.1, x.2 + y.2) :: ·)) = out at ih' ⊢
     simp only [List.map_append, List.map_cons, List.map_nil] at ih'
     rw [show (x.2 + y.2) % 18446744073709551616 = x.2 + y.2 by omega, show (x.2 + y.2) / 18446744073709551616 = 0 by omega] at kadd
     refine tree_lim rfl rfl ?_
     simp -implicitDefEqProofs [-lsub3_i, kcx, kcy, hrx, hry, hrs, hok, hlx, hly, hbb, hp, hp2, hq, hq2, kcmp, kadd, ih']
    ·rw [if_neg h3]
     rw [show (x.2 + y.2) / 18446744073709551616 = 1 by omega] at kadd
     refine tree_lim rfl rfl ?_
     simp -implicitDefEqProofs [-lsub3_i, kcx, kcy, hrx, hry, hok, hlx, hly, hbb, hp, hp2, hq, hq2, kcmp, kadd, outM]
def Ok (t : List Row) : Prop := t.length ≤ 256 ∧ Rise t ∧ ∀ r ∈ t, rowChk r = 0
theorem chkR_inv : ∀ {t : List Row} (p : Option (List UInt8)), chkR p t = 0 → Rise t ∧ (∀ r ∈ t, rowChk r = 0) ∧ ∀ k, p = some k → ∀ r ∈ t, k < K r
 | [], p, _ => ⟨List.Pairwise.nil, by simp, by simp⟩
 | r :: t, p, h => by
  unfold chkR at h
  by_cases h1 : rowChk r = 0
  rotate_left
  ·rw [if_pos h1] at h; exact absurd h h1
  rw [if_neg (by simp [h1])] at h
  have main : ∀ (h : chkR (some (K r)) t = 0), Rise (r :: t) ∧ ∀ x ∈ r :: t, rowChk x = 0 := by
   intro h
   obtain ⟨i1, i2, i3⟩ := chkR_inv (some (K r)) h
   refine ⟨List.Pairwise.cons (i3 _ rfl) i1, fun x hx => ?_⟩
   rcases List.mem_cons.1 hx with rfl | hx
   ·exact h1
   ·exact i2 x hx
  cases p with
  | none => exact ⟨(main h).1, (main h).2, by simp⟩
  | some k =>
   simp only at h
   split at h
   ·cases h
   next h2 =>
   split at h
   ·cases h
   next h3 =>
   refine ⟨(main h).1, (main h).2, ?_⟩
   rintro _ ⟨⟩ x hx
   have hk : k < K r := by
    rcases List.le_iff_lt_or_eq.1 (List.not_lt.1 fun e => h3 ((bl_iff _ _).2 e)) with e | e
    ·exact e
    ·exact absurd e.symm h2
   rcases List.mem_cons.1 hx with rfl | hx
   ·exact hk
   ·exact List.lt_trans hk ((List.pairwise_cons.1 (main h).1).1 x hx)
theorem checkT_iff (t : List Row) : checkT t = 0 ↔ Ok t := by
 unfold checkT Ok
 constructor
 ·intro h
  split at h
  ·cases h
  ·obtain ⟨h1, h2, _⟩ := chkR_inv none h
   exact ⟨by omega, h1, h2⟩
 ·rintro ⟨h1, h2, h3⟩
  rw [if_neg (by omega)]
  exact chkR_rise none h2 h3 (by simp)
theorem rowChk_iff (r : Row) : rowChk r = 0 ↔ descrChk r.1 = 0 ∧ r.2 ≠ 0 := by
 unfold rowChk
 by_cases h : descrChk r.1 = 0
 ·simp -implicitDefEqProofs [h]
 ·simp -implicitDefEqProofs [h]
structure Tb (t : List Row) : Prop where
 ok : Ok t
 rows : Rows t
 few : Few t
theorem Tb.pos {t : List Row} (h : Tb t) : Pos t := fun r hr => by
 have h1 := ((rowChk_iff r).1 (h.ok.2.2 r hr)).2
 have h2 := (h.rows.2 r hr).2
 omega
theorem Tb.rise {t : List Row} (h : Tb t) : Rise t := h.ok.2.1
theorem tb_nil : Tb [] := ⟨⟨by simp, List.Pairwise.nil, by simp⟩, ⟨by simp, by simp⟩, fun r hr => by simp at hr⟩
/-- Rows of descriptors of such tables. -/
theorem tb_of {a b m : List Row} (ha : Tb a) (hb : Tb b) (hl : m.length ≤ 256) (hr : Rise m) (hk : Keys a b m) (hp : Pos m) : Tb m := by
 have src : ∀ r ∈ m, descrChk r.1 = 0 ∧ Ents r.1 ∧ few12 r.1 = true := by
  intro r hr
  obtain ⟨s, hs, e⟩ := hk r hr
  rw [← e]
  rcases hs with hs | hs
  ·exact ⟨((rowChk_iff s).1 (ha.ok.2.2 s hs)).1, (ha.rows.2 s hs).1, ha.few s hs⟩
  ·exact ⟨((rowChk_iff s).1 (hb.ok.2.2 s hs)).1, (hb.rows.2 s hs).1, hb.few s hs⟩
 refine ⟨⟨hl, hr, fun r hr => (rowChk_iff r).2 ⟨(src r hr).1, by have := hp r hr; omega⟩⟩, ⟨by omega, fun r hr => ⟨(src r hr).2.1, ?_⟩⟩, fun r hr => (src r hr).2.2⟩
 have := hp r hr; omega
def tog (a b : List Row) : List Row × Int := match mergeR a b with
 | none => ([], 3)
 | some m => if 256 < m.length then ([], 13) else (m, 0)
structure GoodT (t : List Row) : Prop where
 len : t.length ≤ 300
 few : Few t
 rows : Rows t
theorem Tb.good {t : List Row} (h : Tb t) : GoodT t := ⟨Nat.le_trans h.ok.1 (by decide), h.few, h.rows⟩
theorem together42 (a b : List Row) (ha : GoodT a) (hb : GoodT b) : TT.lim 29 [.l (a.map row), .l (b.map row)] = some [.l ((tog a b).1.map row), .i .i64 (tog a b).2] := by
 have k := loop43 (a.length + b.length) a b [] (Nat.le_refl _) (by have := ha.len; have := hb.len; simp; omega) ha.few hb.few (fun r hr => (ha.rows.2 r hr).2) (fun r hr => (hb.rows.2 r hr).2)
 have hl1 := ha.len
 have hl2 := hb.len
 have hw := wrap64 (n := (a.length : Int) + (b.length : Int)) (by omega) (by omega)
 have hok : (GV.g [.l [], .i .u64 0]).elemOk 2 = true := rfl
 have hc : (0 : Int) ≤ (a.length : Int) + (b.length : Int) ∧ 32 * ((a.length : Int) + (b.length : Int)) ≤ 281474976710656 ∧ (a.length : Int) + (b.length : Int) ≤ 1152921504606846976 := by omega
 unfold tog
 cases hm : mergeR a b with
 | none =>
  rw [hm] at k
  simp only [outM, List.map_nil] at k
  refine fn_lim rfl rfl ?_ rfl
  simp -implicitDefEqProofs [hw, hok, hc, k]
 | some m =>
  rw [hm] at k
  simp only [outM, List.map_nil, List.nil_append] at k
  by_cases h : 256 < m.length
  ·have h' : (256 : Int) < (m.length : Int) := by omega
   refine fn_lim rfl rfl ?_ rfl
   simp -implicitDefEqProofs [hw, hok, hc, k, h, h']
  ·have h' : ¬ (256 : Int) < (m.length : Int) := by omega
   simp only [if_neg h]
   refine fn_lim rfl rfl ?_ rfl
   simp -implicitDefEqProofs [hw, hok, hc, k, h']
theorem tog_ok {a b : List Row} (ha : Tb a) (hb : Tb b) (h : (tog a b).2 = 0) : Tb (tog a b).1 ∧ ∀ k, val (tog a b).1 k = val a k + val b k := by
 unfold tog at h ⊢
 cases hm : mergeR a b with
 | none => rw [hm] at h; cases h
 | some m =>
  rw [hm] at h
  simp only at h ⊢
  split at h
  ·cases h
  next hl =>
  rw [if_neg hl]
  obtain ⟨h1, h2, h3, h4⟩ := merge_some a b ha.rise hb.rise ha.pos hb.pos hm
  exact ⟨tb_of ha hb (Nat.not_lt.1 hl) h1 h3 h4, h2⟩
/-- What two ways of adding up come to. -/
theorem tog_val {a b c d : List Row} (ha : Tb a) (hb : Tb b) (hc : Tb c) (hd : Tb d) (h : ∀ k, val a k + val b k = val c k + val d k) : tog a b = tog c d := by
 have key : ∀ {a b c d : List Row}, Tb a → Tb b → Tb c → Tb d → (∀ k, val a k + val b k = val c k + val d k) → mergeR a b = none → ∀ m, mergeR c d = some m → False := by
  intro a b c d ha hb hc hd h h1 m h2
  obtain ⟨k, hk⟩ := merge_none a b ha.rise hb.rise h1
  obtain ⟨_, q2, _, q4⟩ := merge_some c d hc.rise hd.rise hc.pos hd.pos h2
  have := val_nonneg q4 k
  rw [q2, ← h] at this
  omega
 unfold tog
 cases h1 : mergeR a b with
 | none =>
  cases h2 : mergeR c d with
  | none => rfl
  | some m => exact (key ha hb hc hd h h1 m h2).elim
 | some m =>
  cases h2 : mergeR c d with
  | none => exact (key hc hd ha hb (fun k => (h k).symm) h2 m h1).elim
  | some m' =>
   obtain ⟨p1, p2, _, p4⟩ := merge_some a b ha.rise hb.rise ha.pos hb.pos h1
   obtain ⟨q1, q2, _, q4⟩ := merge_some c d hc.rise hd.rise hc.pos hd.pos h2
   rw [val_ext p1 q1 p4 q4 fun k => by rw [p2, q2, h]]
abbrev Dl := Int × Int × List Row
def dl (d : Dl) : GV := .g [.i .u64 d.1, .i .u64 d.2.1, .l (d.2.2.map row)]
@[simp] theorem dl_cells (d : Dl) : (dl d).cells = [.i .u64 d.1, .i .u64 d.2.1, .l (d.2.2.map row)] := rfl
@[simp] theorem dl_scalar (d : Dl) : (dl d).scalar = false := rfl
def zD : Dl := (0, 0, [])
def chkD (d : Dl) : Int := if d.2.1 ≤ d.1 then 20 else checkT d.2.2
theorem check41 (d : Dl) (h : GoodT d.2.2) : TT.lim 28 [dl d] = some [.i .i64 (chkD d)] := by
 have k := check37 d.2.2 h.rows h.few
 unfold chkD
 refine fn_lim rfl rfl ?_ rfl
 by_cases h1 : d.2.1 ≤ d.1
 ·simp -implicitDefEqProofs [h1]
 ·simp -implicitDefEqProofs [h1, k]
theorem chkD_ok {d : Dl} (h : chkD d = 0) : d.1 < d.2.1 ∧ Ok d.2.2 := by
 unfold chkD at h
 split at h
 ·cases h
 ·exact ⟨by omega, (checkT_iff _).1 h⟩
theorem chkD_of {d : Dl} (h1 : d.1 < d.2.1) (h2 : Ok d.2.2) : chkD d = 0 := by
 unfold chkD
 rw [if_neg (by omega)]; exact (checkT_iff _).2 h2
theorem GoodT.tb {t : List Row} (h : GoodT t) (ho : Ok t) : Tb t := ⟨ho, h.rows, h.few⟩
theorem good_of {l : List Row} (hl : Rows l) (h : few13 l = true) : GoodT l := by
 refine ⟨?_, fun r hr => few13_few h r hr, hl⟩
 unfold few13 at h
 rw [Bool.and_eq_true, decide_eq_true_iff] at h
 exact h.2
theorem same_good (a b : List Row) (ha : GoodT a) (hb : GoodT b) : TT.lim 41 [.l (a.map row), .l (b.map row)] = some [.b (decide (a = b))] :=
 same27 a b (by have := ha.len; omega) (by have := hb.len; omega) (fun r hr => (ha.rows.2 r hr).1.1) (fun r hr => (hb.rows.2 r hr).1.1)
def diffR : List Row → List Row → List Row
 | [], _ => []
 | r :: rs, [] => if r.2 = 0 then diffR rs [] else r :: diffR rs []
 | r :: rs, l :: ls => if K l = K r then (if IntKind.u64.wrap (r.2 - l.2) = 0 then diffR rs ls else (r.1, IntKind.u64.wrap (r.2 - l.2)) :: diffR rs ls) else if r.2 = 0 then diffR rs (l :: ls) else r :: diffR rs (l :: ls)
theorem cmpK_self (a : List UInt8) : cmpK a a = 0 := by unfold cmpK; simp [List.lt_irrefl]
theorem cmpK_ne {a b : List UInt8} (h : a ≠ b) : cmpK a b ≠ 0 := by
 unfold cmpK
 split
 ·omega
 next h1 =>
 split
 ·omega
 next h2 => exact absurd (List.le_antisymm (List.not_lt.1 h2) (List.not_lt.1 h1)) h
set_option maxHeartbeats 4000000 in
theorem loop50 (t : List Row) (e f : Int) (ht : t.length ≤ 300) (ft : Few t) : ∀ (m i : Nat) (b acc : List Row), i + m = t.length → acc.length ≤ i → Few b →
  TT.lim 55 [.l (b.map row), .l (t.map row), .i .i64 t.length, .i .i64 i, .i .u64 e, .i .u64 f, .l (acc.map row)] = some [.i .i64 0, .l ((acc ++ diffR (t.drop i) b).map row)]
 | 0, i, b, acc, hi, ha, fb => by
  have h0 : t.drop i = [] := List.drop_eq_nil_of_le (by omega)
  refine tree_lim rfl rfl ?_
  have h : ¬ ((i : Int) < t.length) := by omega
  simp -implicitDefEqProofs [h, h0, diffR]
 | m + 1, i, b, acc, hi, ha, fb => by
  have hlt : i < t.length := by omega
  have fr := ft t[i] (List.getElem_mem hlt)
  have kc := clone23 t[i].1 (few40 fr)
  have hrow : GV.g [.l (t[i].1.map ent), .i .u64 t[i].2] = row t[i] := rfl
  have hok : ∀ r : Row, (row r).elemOk 2 = true := fun r => rfl
  have hbb : 2 * (acc.length + 1) * 32 ≤ 281474976710656 ∧ acc.length + 1 ≤ 281474976710656 := by omega
  have h : ((i : Int) < t.length) := by omega
  have hw := wrap64 (n := (i : Int) + 1) (by omega) (by omega)
  have ih1 : ∀ b', Few b' → TT.lim 55 [.l (b'.map row), .l (t.map row), .i .i64 t.length, .i .i64 ((i : Int) + 1), .i .u64 e, .i .u64 f, .l (acc.map row)] = _ := fun b' fb' => loop50 t e f ht ft m (i + 1) b' acc (by omega) (by omega) fb'
  have ih2 : ∀ b' r, Few b' → TT.lim 55 [.l (b'.map row), .l (t.map row), .i .i64 t.length, .i .i64 ((i : Int) + 1), .i .u64 e, .i .u64 f, .l ((acc ++ [r]).map row)] = _ := fun b' r fb' => loop50 t e f ht ft m (i + 1) b' (acc ++ [r]) (by omega) (by simp; omega) fb'
  have hdr : t.drop i = t[i] :: t.drop (i + 1) := List.drop_eq_getElem_cons hlt
  rw [hdr]
  cases b with
  | nil =>
   by_cases h1 : t[i].2 = 0
   ·have ih := ih1 [] fb
    simp only [List.map_nil] at ih
    simp only [diffR]
    rw [if_pos h1]
    have h1' : (t[i].2 = 0) = True := eq_true h1
    clear h1
    refine tree_lim rfl rfl ?_
    simp -implicitDefEqProofs [-List.getElem_cons_drop, h, hlt, h1', hw, ih]
   ·have ih := ih2 [] t[i] fb
    simp only [List.map_nil, List.map_append, List.map_cons] at ih
    simp only [diffR]
    rw [if_neg h1]
    refine tree_lim rfl rfl ?_
    simp -implicitDefEqProofs [-List.getElem_cons_drop, h, hlt, h1, hw, kc, hrow, hok, hbb, ih]
  | cons l ls =>
   have fl := fb l (by simp)
   have fls : Few ls := fun r hr => fb r (by simp [hr])
   have hl := lsub_tail (row l) ls ((ls.length : Int) + 1) rfl rfl
   have hp : (0 : Int) < (ls.length : Int) + 1 := by omega
   have kcmp := cmp44 l.1 t[i].1 fl fr
   by_cases h2 : K l = K t[i]
   ·rw [show keyF l.1 = keyF t[i].1 from h2, cmpK_self] at kcmp
    simp only [diffR]
    rw [if_pos h2]
    by_cases h1 : IntKind.u64.wrap (t[i].2 - l.2) = 0
    ·have ih := ih1 ls fls
     rw [if_pos h1]
     refine tree_lim rfl rfl ?_
     simp -implicitDefEqProofs [-List.getElem_cons_drop, -lsub3_i, h, hlt, hp, kcmp, hl, h1, hw, ih]
    ·have ih := ih2 ls (t[i].1, IntKind.u64.wrap (t[i].2 - l.2)) fls
     rw [if_neg h1]
     simp only [List.map_nil, List.map_append, List.map_cons] at ih
     have hrow2 : GV.g [.l (t[i].1.map ent), .i .u64 (IntKind.u64.wrap (t[i].2 - l.2))] = row (t[i].1, IntKind.u64.wrap (t[i].2 - l.2)) := rfl
     refine tree_lim rfl rfl ?_
     simp -implicitDefEqProofs [-List.getElem_cons_drop, -lsub3_i, h, hlt, hp, kcmp, hl, h1, hw, kc, hrow2, hok, hbb, ih]
   ·have hne := cmpK_ne h2
    generalize cmpK (keyF l.1) (keyF t[i].1) = v at kcmp hne
    simp only [diffR]
    rw [if_neg h2]
    by_cases h1 : t[i].2 = 0
    ·have ih := ih1 (l :: ls) fb
     simp only [List.map_cons] at ih
     rw [if_pos h1]
     have h1' : (t[i].2 = 0) = True := eq_true h1
     clear h1
     refine tree_lim rfl rfl ?_
     simp -implicitDefEqProofs [-List.getElem_cons_drop, -lsub3_i, h, hlt, hp, kcmp, hne, h1', hw, ih]
    ·have ih := ih2 (l :: ls) t[i] fb
     simp only [List.map_nil, List.map_append, List.map_cons] at ih
     rw [if_neg h1]
     refine tree_lim rfl rfl ?_
     simp -implicitDefEqProofs [-List.getElem_cons_drop, -lsub3_i, h, hlt, hp, kcmp, hne, h1, hw, kc, hrow, hok, hbb, ih]
theorem diff_facts : ∀ (t b : List Row), Rise t → Rise b → Pos t → Pos b → (∀ l ∈ b, ∃ r ∈ t, K r = K l ∧ l.2 ≤ r.2) →
  Rise (diffR t b) ∧ (∀ k, val (diffR t b) k = val t k - val b k) ∧ (∀ r ∈ diffR t b, ∃ s ∈ t, s.1 = r.1) ∧ Pos (diffR t b)
 | [], [], _, _, _, _, _ => ⟨List.Pairwise.nil, fun k => rfl, by simp [diffR], by simp [diffR, Pos]⟩
 | [], l :: b, _, _, _, _, h => by obtain ⟨r, hr, _⟩ := h l (by simp); simp at hr
 | r :: t, [], ht, hb, pt, pb, h => by
  have ht' := List.pairwise_cons.1 ht
  obtain ⟨h1, h2, h3, h4⟩ := diff_facts t [] ht'.2 hb (fun x hx => pt x (by simp [hx])) pb (by simp)
  have hr := pt r (by simp)
  simp only [diffR]
  rw [if_neg (by omega)]
  refine ⟨List.Pairwise.cons (fun x hx => ?_) h1, fun k => ?_, fun x hx => ?_, fun x hx => ?_⟩
  ·obtain ⟨s, hs, e⟩ := h3 x hx
   show K r < keyF x.1
   rw [← e]; exact ht'.1 s hs
  ·show (if K r = k then r.2 else val (diffR t []) k) = (if K r = k then r.2 else val t k) - val [] k
   split
   ·simp -implicitDefEqProofs [val]
   ·exact h2 k
  ·rcases List.mem_cons.1 hx with rfl | hx
   ·exact ⟨x, by simp, rfl⟩
   ·obtain ⟨s, hs, e⟩ := h3 x hx; exact ⟨s, by simp [hs], e⟩
  ·rcases List.mem_cons.1 hx with rfl | hx
   ·exact hr
   ·exact h4 x hx
 | r :: t, l :: b, ht, hb, pt, pb, h => by
  have ht' := List.pairwise_cons.1 ht
  have hb' := List.pairwise_cons.1 hb
  have hr := pt r (by simp)
  have hl := pb l (by simp)
  simp only [diffR]
  by_cases he : K l = K r
  ·rw [if_pos he]
   have hle : l.2 ≤ r.2 := by
    obtain ⟨s, hs, e, hn⟩ := h l (by simp)
    have : s = r := rise_key ht hs (by simp) (e.trans he)
    rw [← this]; exact hn
   have hw := wrapu64 (n := r.2 - l.2) (by omega) (by omega)
   rw [hw]
   obtain ⟨h1, h2, h3, h4⟩ := diff_facts t b ht'.2 hb'.2 (fun x hx => pt x (by simp [hx])) (fun x hx => pb x (by simp [hx])) (fun x hx => by
    obtain ⟨s, hs, e, hn⟩ := h x (by simp [hx])
    rcases List.mem_cons.1 hs with rfl | hs
    ·have := hb'.1 x hx; rw [he, ← e] at this; exact absurd this (List.lt_irrefl _)
    ·exact ⟨s, hs, e, hn⟩)
   have h3' : ∀ x ∈ diffR t b, ∃ s ∈ r :: t, s.1 = x.1 := fun x hx => by obtain ⟨s, hs, e⟩ := h3 x hx; exact ⟨s, by simp [hs], e⟩
   have hv : ∀ k, (if K r = k then r.2 - l.2 else val (diffR t b) k) = val (r :: t) k - val (l :: b) k := fun k => by
    show _ = (if K r = k then r.2 else val t k) - (if K l = k then l.2 else val b k)
    rw [he]
    split
    ·rfl
    ·exact h2 k
   by_cases h0 : r.2 - l.2 = 0
   ·rw [if_pos h0]
    refine ⟨h1, fun k => ?_, h3', h4⟩
    rw [← hv k]
    split
    ·next e =>
     rw [h0]; subst e
     refine val_above fun x hx => ?_
     obtain ⟨s, hs, e⟩ := h3 x hx
     show K r < keyF x.1
     rw [← e]; exact ht'.1 s hs
    ·rfl
   ·rw [if_neg h0]
    refine ⟨List.Pairwise.cons (fun x hx => ?_) h1, hv, fun x hx => ?_, fun x hx => ?_⟩
    ·obtain ⟨s, hs, e⟩ := h3 x hx
     show keyF r.1 < keyF x.1
     rw [← e]; exact ht'.1 s hs
    ·rcases List.mem_cons.1 hx with rfl | hx
     ·exact ⟨r, by simp, rfl⟩
     ·exact h3' x hx
    ·rcases List.mem_cons.1 hx with rfl | hx
     ·exact ⟨by simp only; omega, by simp only; omega⟩
     ·exact h4 x hx
  ·rw [if_neg he, if_neg (by omega)]
   have hin : ∀ x ∈ l :: b, ∃ s ∈ t, K s = K x ∧ x.2 ≤ s.2 := by
    have hlr : K r < K l := by
     obtain ⟨s, hs, e, _⟩ := h l (by simp)
     rcases List.mem_cons.1 hs with rfl | hs
     ·exact absurd e.symm he
     ·rw [← e]; exact ht'.1 s hs
    intro x hx
    obtain ⟨s, hs, e, hn⟩ := h x hx
    rcases List.mem_cons.1 hs with rfl | hs
    ·exfalso
     rcases List.mem_cons.1 hx with rfl | hx
     ·exact he e.symm
     ·have := List.lt_trans hlr (hb'.1 x hx); rw [e] at this; exact List.lt_irrefl _ this
    ·exact ⟨s, hs, e, hn⟩
   obtain ⟨h1, h2, h3, h4⟩ := diff_facts t (l :: b) ht'.2 hb (fun x hx => pt x (by simp [hx])) pb hin
   refine ⟨List.Pairwise.cons (fun x hx => ?_) h1, fun k => ?_, fun x hx => ?_, fun x hx => ?_⟩
   ·obtain ⟨s, hs, e⟩ := h3 x hx
    show K r < keyF x.1
    rw [← e]; exact ht'.1 s hs
   ·show (if K r = k then r.2 else val (diffR t (l :: b)) k) = (if K r = k then r.2 else val t k) - val (l :: b) k
    split
    ·next e =>
     rw [val_none (t := l :: b) fun x hx e2 => by
      obtain ⟨s, hs, e3, _⟩ := hin x hx
      have := ht'.1 s hs
      rw [e3, e2, e] at this; exact List.lt_irrefl _ this]
     omega
    ·exact h2 k
   ·rcases List.mem_cons.1 hx with rfl | hx
    ·exact ⟨x, by simp, rfl⟩
    ·obtain ⟨s, hs, e⟩ := h3 x hx; exact ⟨s, by simp [hs], e⟩
   ·rcases List.mem_cons.1 hx with rfl | hx
    ·exact hr
    ·exact h4 x hx
abbrev Sn := Int × List Row
def sn (s : Sn) : GV := .g [.i .u64 s.1, .l (s.2.map row)]
@[simp] theorem sn_cells (s : Sn) : (sn s).cells = [.i .u64 s.1, .l (s.2.map row)] := rfl
@[simp] theorem sn_scalar (s : Sn) : (sn s).scalar = false := rfl
def zS : Sn := (0, [])
theorem check49 (s : Sn) (h : GoodT s.2) : TT.lim 18 [sn s] = some [.i .i64 (checkT s.2)] := by
 have k := check37 s.2 h.rows h.few
 refine fn_lim rfl rfl ?_ rfl
 simp -implicitDefEqProofs [k]
def diffS (s n : Sn) : Dl × Int :=
 if checkT s.2 ≠ 0 then (zD, checkT s.2) else if checkT n.2 ≠ 0 then (zD, checkT n.2) else if n.1 ≤ s.1 then (zD, 20)
 else if atL n.2 s.2 = false then (zD, 21) else ((s.1, n.1, diffR n.2 s.2), 0)
def applyS (s : Sn) (d : Dl) : Sn × Int :=
 if checkT s.2 ≠ 0 then (zS, checkT s.2) else if chkD d ≠ 0 then (zS, chkD d) else if s.1 ≠ d.1 then (zS, 19)
 else if (tog s.2 d.2.2).2 ≠ 0 then (zS, (tog s.2 d.2.2).2) else ((d.2.1, (tog s.2 d.2.2).1), 0)
theorem diff48 (s n : Sn) (hs : GoodT s.2) (hn : GoodT n.2) : TT.lim 51 [sn s, sn n] = some [dl (diffS s n).1, .i .i64 (diffS s n).2] := by
 have k1 := check49 s hs
 have k2 := check49 n hn
 have e1 : GV.g [.i .u64 s.1, .l (s.2.map row)] = sn s := rfl
 have e2 : GV.g [.i .u64 n.1, .l (n.2.map row)] = sn n := rfl
 have e3 : GV.g [.i .u64 0, .i .u64 0, .l []] = dl zD := rfl
 have e4 : GV.g [.i .u64 s.1, .i .u64 n.1, .l ((diffR n.2 s.2).map row)] = dl (s.1, n.1, diffR n.2 s.2) := rfl
 have k5 : TT.lim 55 [.l (s.2.map row), .l (n.2.map row), .i .i64 n.2.length, .i .i64 0, .i .u64 s.1, .i .u64 n.1, .l []] = _ := loop50 n.2 s.1 n.1 hn.len hn.few n.2.length 0 s.2 [] (by omega) (by simp) hs.few
 rw [List.drop_zero, List.nil_append] at k5
 unfold diffS
 by_cases h1 : checkT s.2 = 0
 rotate_left
 ·refine fn_lim rfl rfl ?_ rfl
  simp -implicitDefEqProofs [e1, k1, h1, e3]
 by_cases h2 : checkT n.2 = 0
 rotate_left
 ·refine fn_lim rfl rfl ?_ rfl
  simp -implicitDefEqProofs [e1, k1, h1, e2, k2, h2, e3]
 by_cases h3 : n.1 ≤ s.1
 ·refine fn_lim rfl rfl ?_ rfl
  simp -implicitDefEqProofs [e1, k1, h1, e2, k2, h2, e3, h3]
 have k4 := atLeast24 n.2 s.2 ((checkT_iff _).1 h2).1 ((checkT_iff _).1 h1).1 hn.few hs.few
 cases h4 : atL n.2 s.2 with
 | false =>
  rw [h4] at k4
  refine fn_lim rfl rfl ?_ rfl
  simp -implicitDefEqProofs [e1, k1, h1, e2, k2, h2, e3, h3, k4]
 | true =>
  rw [h4] at k4
  refine fn_lim rfl rfl ?_ rfl
  simp -implicitDefEqProofs [e1, k1, h1, e2, k2, h2, e4, h3, k4, k5]
theorem apply51 (s : Sn) (d : Dl) (hs : GoodT s.2) (hd : GoodT d.2.2) : TT.lim 17 [sn s, dl d] = some [sn (applyS s d).1, .i .i64 (applyS s d).2] := by
 have k1 := check49 s hs
 have k2 := check41 d hd
 have k3 := together42 _ _ hs hd
 have e1 : GV.g [.i .u64 s.1, .l (s.2.map row)] = sn s := rfl
 have e2 : GV.g [.i .u64 d.1, .i .u64 d.2.1, .l (d.2.2.map row)] = dl d := rfl
 have e3 : GV.g [.i .u64 0, .l []] = sn zS := rfl
 have e4 : GV.g [.i .u64 d.2.1, .l ((tog s.2 d.2.2).1.map row)] = sn (d.2.1, (tog s.2 d.2.2).1) := rfl
 unfold applyS
 by_cases h1 : checkT s.2 = 0
 rotate_left
 ·refine fn_lim rfl rfl ?_ rfl
  simp -implicitDefEqProofs [e1, k1, h1, e3]
 by_cases h2 : chkD d = 0
 rotate_left
 ·refine fn_lim rfl rfl ?_ rfl
  simp -implicitDefEqProofs [e1, k1, h1, e2, k2, h2, e3]
 by_cases h3 : s.1 = d.1
 rotate_left
 ·refine fn_lim rfl rfl ?_ rfl
  simp -implicitDefEqProofs [e1, k1, h1, e2, k2, h2, e3, h3]
 have h3' : (s.1 = d.1) = True := eq_true h3
 clear h3
 by_cases h4 : (tog s.2 d.2.2).2 = 0
 rotate_left
 ·refine fn_lim rfl rfl ?_ rfl
  simp -implicitDefEqProofs [e1, k1, h1, e2, k2, h2, e3, h3', k3, h4]
 ·refine fn_lim rfl rfl ?_ rfl
  simp -implicitDefEqProofs [e1, k1, h1, e2, k2, h2, e4, h3', k3, h4]
theorem diffS_ok {s n : Sn} (h : (diffS s n).2 = 0) : Ok s.2 ∧ Ok n.2 ∧ s.1 < n.1 ∧ atL n.2 s.2 = true ∧ (diffS s n).1 = (s.1, n.1, diffR n.2 s.2) := by
 unfold diffS at h ⊢
 split at h
 ·next h1 => exact absurd h h1
 next h1 =>
 split at h
 ·next h2 => exact absurd h h2
 next h2 =>
 split at h
 ·cases h
 next h3 =>
 split at h
 ·cases h
 next h4 =>
 rw [if_neg h1, if_neg h2, if_neg h3, if_neg h4]
 exact ⟨(checkT_iff _).1 (by simpa using h1), (checkT_iff _).1 (by simpa using h2), by omega, by simpa using h4, rfl⟩
theorem diffS_eq {s n : Sn} (h1 : Ok s.2) (h2 : Ok n.2) (h3 : s.1 < n.1) (h4 : atL n.2 s.2 = true) : diffS s n = ((s.1, n.1, diffR n.2 s.2), 0) := by
 unfold diffS
 rw [if_neg (by simp [(checkT_iff _).2 h1]), if_neg (by simp [(checkT_iff _).2 h2]), if_neg (by omega), if_neg (by simp [h4])]
theorem applyS_ok {s : Sn} {d : Dl} (h : (applyS s d).2 = 0) : Ok s.2 ∧ chkD d = 0 ∧ s.1 = d.1 ∧ (tog s.2 d.2.2).2 = 0 ∧ (applyS s d).1 = (d.2.1, (tog s.2 d.2.2).1) := by
 unfold applyS at h ⊢
 split at h
 ·next h1 => exact absurd h h1
 next h1 =>
 split at h
 ·next h2 => exact absurd h h2
 next h2 =>
 split at h
 ·cases h
 next h3 =>
 split at h
 ·next h4 => exact absurd h h4
 next h4 =>
 rw [if_neg h1, if_neg h2, if_neg h3, if_neg h4]
 exact ⟨(checkT_iff _).1 (by simpa using h1), by simpa using h2, by simpa using h3, by simpa using h4, rfl⟩
theorem applyS_eq {s : Sn} {d : Dl} (h1 : Ok s.2) (h2 : chkD d = 0) (h3 : s.1 = d.1) : applyS s d = if (tog s.2 d.2.2).2 ≠ 0 then (zS, (tog s.2 d.2.2).2) else ((d.2.1, (tog s.2 d.2.2).1), 0) := by
 unfold applyS
 rw [if_neg (by simp [(checkT_iff _).2 h1]), if_neg (by simp [h2]), if_neg (by simp [h3])]
/-- What is at least another: by keys. -/
theorem diff_tb {s n : List Row} (hs : Tb s) (hn : Tb n) (h : atL n s = true) : Tb (diffR n s) ∧ ∀ k, val (diffR n s) k = val n k - val s k := by
 have h' := (atL_iff _ _ hn.rise hs.rise).1 h
 obtain ⟨h1, h2, h3, h4⟩ := diff_facts n s hn.rise hs.rise hn.pos hs.pos h'
 have hl : (diffR n s).length ≤ n.length := rise_len h1 hn.rise fun r hr => by obtain ⟨x, hx, e⟩ := h3 r hr; exact ⟨x, hx, by show keyF x.1 = keyF r.1; rw [e]⟩
 exact ⟨tb_of hn hn (Nat.le_trans hl hn.ok.1) h1 (fun r hr => by obtain ⟨x, hx, e⟩ := h3 r hr; exact ⟨x, .inl hx, e⟩) h4, h2⟩
theorem tog_self {t : List Row} (ht : Tb t) : tog t [] = (t, 0) := by
 have h : mergeR t [] = some t := by cases t <;> rw [mergeR]
 unfold tog
 rw [h]
 simp only
 rw [if_neg (by have := ht.ok.1; omega)]
theorem back1 {s n : Sn} (hs : GoodT s.2) (hn : GoodT n.2) (h : (diffS s n).2 = 0) : chkD (diffS s n).1 = 0 ∧ applyS s (diffS s n).1 = (n, 0) ∧ GoodT (diffS s n).1.2.2 := by
 obtain ⟨h1, h2, h3, h4, h5⟩ := diffS_ok h
 have ts := hs.tb h1
 have tn := hn.tb h2
 obtain ⟨k1, k2⟩ := diff_tb ts tn h4
 rw [h5]
 have hc : chkD (s.1, n.1, diffR n.2 s.2) = 0 := chkD_of h3 k1.ok
 have ht : tog s.2 (diffR n.2 s.2) = tog n.2 [] := tog_val ts k1 tn tb_nil fun k => by rw [k2]; simp [val]; omega
 rw [tog_self tn] at ht
 refine ⟨hc, ?_, k1.good⟩
 rw [applyS_eq h1 hc rfl]
 simp only [ht]
 rfl
theorem apply_tb {s : Sn} {d : Dl} (hs : GoodT s.2) (hd : GoodT d.2.2) (h : (applyS s d).2 = 0) : Tb (applyS s d).1.2 ∧ ∀ k, val (applyS s d).1.2 k = val s.2 k + val d.2.2 k := by
 obtain ⟨h1, h2, h3, h4, h5⟩ := applyS_ok h
 rw [h5]
 exact tog_ok (hs.tb h1) (hd.tb (chkD_ok h2).2) h4
structure TOk (t : List Row) : Prop where
 ok : Ok t
 few : Few t
 rows : Rows t
theorem TOk.tb {t : List Row} (h : TOk t) : checkT t = 0 := (checkT_iff t).2 h.ok
theorem TOk.len {t : List Row} (h : TOk t) : t.length ≤ 256 := h.ok.1
theorem TOk.good {t : List Row} (h : TOk t) : GoodT t := ⟨Nat.le_trans h.len (by decide), h.few, h.rows⟩
end Y
end Go.Proofs.YtlifdeocdbjalaaGreatDoor
