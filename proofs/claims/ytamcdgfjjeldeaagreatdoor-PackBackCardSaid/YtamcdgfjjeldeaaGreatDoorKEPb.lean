/- What the trees compute: plain laws. -/
import Derived.Test.YtamcdgfjjeldeaaGreatDoorKET
import Derived.Test.YtamcdgfjjeldeaaGreatDoorAbsPl
import Derived.Lib.TrimUEq
import Derived.Lib.MapLaws
namespace Go.Proofs.YtamcdgfjjeldeaaGreatDoor
open Go Go.Abs
set_option linter.unusedSimpArgs false
set_option linter.unusedVariables false
set_option maxRecDepth 100000
namespace E
theorem bytesLess_lt : ∀ a b : List UInt8, Op.bytesLess a b = decide (a < b)
  | _, [] => by simp [Op.bytesLess]
  | [], _ :: _ => by simp [Op.bytesLess]
  | a :: x, b :: y => by
    rw [Op.bytesLess, bytesLess_lt x y, Bool.eq_iff_iff]
    simp [List.cons_lt_cons_iff]
/-- An entry: key and value. A row: its entries and its number. -/
abbrev Ent := List UInt8 × List UInt8
abbrev Row := List Ent × Int
def ent (x : Ent) : GV := .g [.s x.1, .s x.2]
def row (r : Row) : GV := .g [.l (r.1.map ent), .i .u64 r.2]
@[simp] theorem ent_cells (x : Ent) : (ent x).cells = [.s x.1, .s x.2] := rfl
@[simp] theorem row_cells (r : Row) : (row r).cells = [.l (r.1.map ent), .i .u64 r.2] := rfl
@[simp] theorem ent_scalar (x : Ent) : (ent x).scalar = false := rfl
@[simp] theorem row_scalar (r : Row) : (row r).scalar = false := rfl
/-- Texts and lists of no more than any machine bears. -/
def Ents (d : List Ent) : Prop := d.length ≤ 140737488351232 ∧ ∀ x ∈ d, x.1.length ≤ 140737488351232 ∧ x.2.length ≤ 140737488351232
def Rows (l : List Row) : Prop := l.length ≤ 140737488351232 ∧ ∀ r ∈ l, Ents r.1 ∧ 0 ≤ r.2 ∧ r.2 < 18446744073709551616
def fewE (x : Ent) : Bool := decide (x.1.length + x.2.length ≤ 600)
theorem loop5 (d : List Ent) (hd : Ents d) : ∀ m i : Nat, i + m = d.length → TT.lim 45 [.l (d.map ent), .i .i64 d.length, .i .i64 i] = some (if (d.drop i).all fewE = true then [.i .i64 1, .l (d.map ent)] else [.i .i64 0])
  | 0, i, hi => by
    have h0 : d.drop i = [] := List.drop_eq_nil_of_le (by omega)
    refine tree_lim rfl rfl ?_
    have h : ¬ ((i : Int) < d.length) := by omega
    simp [h, h0]
  | m + 1, i, hi => by
    have hlt : i < d.length := by omega
    have ih : TT.lim 45 [.l (d.map ent), .i .i64 d.length, .i .i64 ((i : Int) + 1)] = _ := loop5 d hd m (i + 1) (by omega)
    refine tree_lim rfl rfl ?_
    have h : ((i : Int) < d.length) := by omega
    have hw := wrap64 (n := (i : Int) + 1) (by omega) (by have := hd.1; omega)
    have hx := hd.2 d[i] (List.getElem_mem hlt)
    have hw2 := wrap64 (n := (d[i].1.length : Int) + (d[i].2.length : Int)) (by omega) (by omega)
    have hda : (d.drop i).all fewE = (fewE d[i] && (d.drop (i + 1)).all fewE) := by rw [List.drop_eq_getElem_cons hlt, List.all_cons]
    by_cases hf : (600 : Int) < (d[i].1.length : Int) + (d[i].2.length : Int)
    · have : fewE d[i] = false := by unfold fewE; simp; omega
      simp [h, hlt, hw2, hf, hda, this]
    · have : fewE d[i] = true := by unfold fewE; simp; omega
      rw [hda, this, Bool.true_and]
      simp [h, hlt, hw, hw2, hf, ih]
def few12 (d : List Ent) : Bool := d.all fewE && decide (d.length ≤ 40)
theorem few4 (d : List Ent) (hd : Ents d) : TT.lim 44 [.l (d.map ent)] = some [.b (few12 d)] := by
  refine fn_lim rfl rfl ?_ rfl
  have h5 : TT.lim 45 [.l (d.map ent), .i .i64 d.length, .i .i64 0] = _ := loop5 d hd d.length 0 (by omega)
  rw [List.drop_zero] at h5
  cases hc : d.all fewE with
  | false => rw [hc] at h5; simp [h5, few12, hc]
  | true =>
    rw [hc] at h5; simp only [if_true] at h5
    have : (decide ((d.length : Int) ≤ 40)) = decide (d.length ≤ 40) := by rw [Bool.eq_iff_iff]; simp; omega
    simp [h5, few12, hc, this]
def vput (n : Nat) : List UInt8 := if n < 128 then [UInt8.ofNat n] else UInt8.ofNat (n % 128 + 128) :: vput (n / 128)
termination_by n
decreasing_by omega
theorem vput_lt {n : Nat} (h : n < 128) : vput n = [UInt8.ofNat n] := by rw [vput, if_pos h]
theorem vput_ge {n : Nat} (h : ¬ n < 128) : vput n = UInt8.ofNat (n % 128 + 128) :: vput (n / 128) := by rw [vput, if_neg h]
def vsize (n : Nat) : Nat := (vput n).length
theorem shr7 {n : Int} (h0 : 0 ≤ n) : n.fdiv (2 ^ (7 : Nat)) = n / 128 := by
  rw [Int.fdiv_eq_ediv_of_nonneg _ (by decide)]; rfl
theorem shr_u64 {n : Nat} : shG .shr .u64 (n : Int) 7 = some (.i .u64 ((n / 128 : Nat) : Int)) := by
  have : ((n : Int)).fdiv (2 ^ (7 : Nat)) = ((n / 128 : Nat) : Int) := by rw [shr7 (by omega)]; omega
  simp [shG, IntKind.bits]
  exact this
theorem vsize_pos (n : Nat) : 0 < vsize n := by unfold vsize; rw [vput]; split <;> simp
theorem vsize_ge {n : Nat} (h : ¬ n < 128) : vsize n = vsize (n / 128) + 1 := by unfold vsize; rw [vput_ge h]; rfl
theorem vsize_le : ∀ (k n : Nat), 0 < k → n < 128 ^ k → vsize n ≤ k
  | 0, _, h, _ => by omega
  | k + 1, n, _, h => by
    by_cases hn : n < 128
    · unfold vsize; rw [vput_lt hn]; simp
    · rw [vsize_ge hn]
      cases k with
      | zero => simp at h; omega
      | succ k =>
        have : n / 128 < 128 ^ (k + 1) := by rw [Nat.pow_succ] at h; omega
        have := vsize_le (k + 1) (n / 128) (by omega) this
        omega
theorem vsize64 {n : Nat} (h : n < 18446744073709551616) : vsize n ≤ 10 := vsize_le 10 n (by omega) (by omega)
theorem loop9 : ∀ (n s : Nat), s + vsize n ≤ 1000 → n < 18446744073709551616 → TT.lim 10 [.i .u64 n, .i .i64 s] = some [.i .i64 0, .i .i64 ((s + vsize n - 1 : Nat) : Int)] := by
  intro n
  induction n using Nat.strongRecOn with
  | _ n ih =>
    intro s hs hn
    refine tree_lim rfl rfl ?_
    by_cases h : n < 128
    · have h' : ¬ (128 : Int) ≤ n := by omega
      simp [h', vsize, vput_lt h]
    · have h' : (128 : Int) ≤ n := by omega
      have hv := vsize_ge h
      have hp := vsize_pos (n / 128)
      have hw := wrap64 (n := (s : Int) + 1) (by omega) (by omega)
      have ih' : TT.lim 10 [.i .u64 ((n / 128 : Nat) : Int), .i .i64 ((s : Int) + 1)] = _ := ih (n / 128) (by omega) (s + 1) (by omega) (by omega)
      have hn' : s + vsize n - 1 = s + 1 + vsize (n / 128) - 1 := by omega
      rw [hn']
      have h7 : shG .shr .u64 (n : Int) 7 = some (.i .u64 ((n / 128 : Nat) : Int)) := shr_u64
      generalize ((n / 128 : Nat) : Int) = q at h7 ih'
      simp [h', hw, h7, ih']
theorem size8 (n : Nat) (hn : n < 18446744073709551616) : TT.lim 9 [.i .u64 n] = some [.i .i64 (vsize n)] := by
  have hp := vsize_pos n
  have h9 : TT.lim 10 [.i .u64 n, .i .i64 1] = _ := loop9 n 1 (by have := vsize64 hn; omega) hn
  rw [show 1 + vsize n - 1 = vsize n by omega] at h9
  refine fn_lim rfl rfl ?_ rfl
  simp [h9]
/-- The bytes of a number, each with its high bit set. -/
def vraw : Nat → Nat → List Nat
  | 0, _ => []
  | k + 1, n => (n % 128 + 128) :: vraw k (n / 128)
def byteG (n : Nat) : GV := .i .u8 n
theorem and127 (n : Nat) (hn : n < 18446744073709551616) : intG .and .u64 (n : Int) 127 = some (.i .u64 ((n % 128 : Nat) : Int)) := by
  have h1 : ((BitVec.ofInt 64 (n : Int) &&& BitVec.ofInt 64 127).toNat : Nat) = n % 128 := by
    rw [BitVec.toNat_and, BitVec.toNat_ofInt, BitVec.toNat_ofInt]
    have e1 : ((n : Int) % ((2 ^ 64 : Nat) : Int)).toNat = n := by omega
    have e2 : ((127 : Int) % ((2 ^ 64 : Nat) : Int)).toNat = 2 ^ 7 - 1 := by decide
    rw [e1, e2, Nat.and_two_pow_sub_one_eq_mod]
  show some (GV.i .u64 (IntKind.u64.wrap (((BitVec.ofInt 64 (n : Int) &&& BitVec.ofInt 64 127).toNat : Nat) : Int))) = _
  rw [h1, wrapu64 (by omega) (by omega)]
theorem and127_8 (n : Nat) (hn : n < 256) : intG .and .u8 (n : Int) 127 = some (.i .u8 ((n % 128 : Nat) : Int)) := by
  have : ∀ x : Fin 256, IntKind.u8.wrap (((BitVec.ofInt IntKind.u8.bits ((x.val : Nat) : Int) &&& BitVec.ofInt IntKind.u8.bits 127).toNat : Nat) : Int) = ((x.val % 128 : Nat) : Int) := by decide +kernel
  show some (GV.i .u8 _) = some (GV.i .u8 _)
  exact congrArg (fun z => some (GV.i .u8 z)) (this ⟨n, hn⟩)
theorem or128 (n : Nat) (hn : n < 128) : intG .or .u8 (n : Int) 128 = some (.i .u8 ((n + 128 : Nat) : Int)) := by
  have : ∀ x : Fin 128, IntKind.u8.wrap (((BitVec.ofInt IntKind.u8.bits ((x.val : Nat) : Int) ||| BitVec.ofInt IntKind.u8.bits 128).toNat : Nat) : Int) = ((x.val + 128 : Nat) : Int) := by decide +kernel
  show some (GV.i .u8 _) = some (GV.i .u8 _)
  exact congrArg (fun z => some (GV.i .u8 z)) (this ⟨n, hn⟩)
theorem wrapu8 {n : Int} (h0 : 0 ≤ n) (h1 : n < 256) : IntKind.u8.wrap n = n := by
  have : IntKind.u8.wrap n = n % 256 := by simp [IntKind.wrap, IntKind.signed, IntKind.bits]
  rw [this]; omega
@[simp] theorem byteG_cells (n : Nat) : (byteG n).cells = [byteG n] := rfl
@[simp] theorem byteG_scalar (n : Nat) : (byteG n).scalar = true := rfl
@[simp] theorem byteG_put (n : Nat) (v : GV) : (byteG n).put 0 [v] = some v := rfl
theorem bytesG_map : ∀ l : List Nat, (∀ x ∈ l, x < 256) → bytesG (l.map byteG) = some (l.map UInt8.ofNat)
  | [], _ => rfl
  | a :: l, h => by
    have h1 := h a (by simp)
    have h2 := bytesG_map l fun x hx => h x (by simp [hx])
    simp only [List.map_cons, byteG, bytesG] at h2 ⊢
    rw [if_pos (by omega)]
    have : (fun n : Nat => GV.i .u8 (n : Int)) = byteG := rfl
    rw [h2]
    simp
theorem loop10 : ∀ (m n : Nat) (done : List Nat), n < 18446744073709551616 → done.length + m < 1000 →
    TT.lim 11 [.i .u64 n, .l ((done ++ List.replicate m 0).map byteG), .i .i64 ((done.length + m : Nat) : Int), .i .i64 done.length] = some [.i .i64 0, .l ((done ++ vraw m n).map byteG)]
  | 0, n, done, hn, hd => by
    refine tree_lim rfl rfl ?_
    simp [vraw]
  | m + 1, n, done, hn, hd => by
    have hlt : (done.length : Int) < ((done.length + (m + 1) : Nat) : Int) := by omega
    have hw := wrap64 (n := (done.length : Int) + 1) (by omega) (by omega)
    have hw8 := wrapu8 (n := ((n % 128 : Nat) : Int)) (by omega) (by omega)
    have h7 : shG .shr .u64 (n : Int) 7 = some (.i .u64 ((n / 128 : Nat) : Int)) := shr_u64
    have ha := and127 n hn
    have ho := or128 (n % 128) (by omega)
    have ih := loop10 m (n / 128) (done ++ [n % 128 + 128]) (by omega) (by simp; omega)
    have hlen : (done ++ [n % 128 + 128]).length + m = done.length + (m + 1) := by simp; omega
    rw [hlen] at ih
    have hl2 : (((done ++ [n % 128 + 128]).length : Nat) : Int) = (done.length : Int) + 1 := by simp
    rw [hl2] at ih
    have hset : ((done ++ List.replicate (m + 1) 0).map byteG).set done.length (byteG (n % 128 + 128)) = (done ++ [n % 128 + 128] ++ List.replicate m 0).map byteG := by
      rw [List.replicate_succ, ← List.map_set, List.set_append_right _ _ (Nat.le_refl _), Nat.sub_self]
      simp
    have hget : ((done ++ List.replicate (m + 1) 0).map byteG)[done.length]? = some (byteG 0) := by
      rw [List.getElem?_map, List.getElem?_append_right (Nat.le_refl _), Nat.sub_self, List.replicate_succ]; rfl
    have hll : ((done ++ List.replicate (m + 1) 0).map byteG).length = done.length + (m + 1) := by simp
    have hv : done ++ vraw (m + 1) n = done ++ [n % 128 + 128] ++ vraw m (n / 128) := by simp [vraw]
    rw [hv]
    generalize hL : (done ++ List.replicate (m + 1) 0).map byteG = L at *
    refine tree_lim rfl rfl ?_
    have hix : (0 : Int) ≤ (done.length : Int) ∧ (done.length : Int) < (L.length : Int) := by rw [hll]; omega
    have hob : GV.i IntKind.u8 ((n % 128 + 128 : Nat) : Int) = byteG (n % 128 + 128) := rfl
    have hset' : L.set done.length (GV.i IntKind.u8 ((n % 128 + 128 : Nat) : Int)) = (done ++ [n % 128 + 128] ++ List.replicate m 0).map byteG := hset
    generalize (done ++ [n % 128 + 128] ++ List.replicate m 0).map byteG = L2 at ih hset'
    generalize (done ++ [n % 128 + 128] ++ vraw m (n / 128)).map byteG = L3 at ih ⊢
    generalize ((n / 128 : Nat) : Int) = q at h7 ih
    generalize ((n % 128 + 128 : Nat) : Int) = z at ho hset'
    generalize ((n % 128 : Nat) : Int) = rr at ha hw8 ho
    generalize ((done.length + (m + 1) : Nat) : Int) = N at hlt ih ⊢
    simp [hlt, ha, hw8, ho, hix, hget, h7, hw, hset', ih]
theorem vraw_len : ∀ m n, (vraw m n).length = m
  | 0, _ => rfl
  | m + 1, n => by simp [vraw, vraw_len m]
theorem vraw_lt : ∀ m n, ∀ x ∈ vraw m n, x < 256
  | 0, _, x, h => by simp [vraw] at h
  | m + 1, n, x, h => by
    simp only [vraw, List.mem_cons] at h
    rcases h with rfl | h
    · omega
    · exact vraw_lt m _ x h
/-- The last byte without its high bit: as numbers are written. -/
theorem vraw_put : ∀ (s n : Nat), vsize n = s + 1 → ∃ x, (vraw (s + 1) n)[s]? = some x ∧ ((vraw (s + 1) n).set s (x % 128)).map UInt8.ofNat = vput n
  | 0, n, h => by
    have hn : n < 128 := by
      by_cases hn : n < 128
      · exact hn
      · rw [vsize_ge hn] at h; have := vsize_pos (n / 128); omega
    refine ⟨n % 128 + 128, by simp [vraw], ?_⟩
    rw [vput_lt hn]
    simp [vraw]
    rw [Nat.mod_eq_of_lt hn]
  | s + 1, n, h => by
    have hn : ¬ n < 128 := by
      intro hn
      unfold vsize at h; rw [vput_lt hn] at h; simp at h
    rw [vsize_ge hn] at h
    obtain ⟨x, h1, h2⟩ := vraw_put s (n / 128) (by omega)
    refine ⟨x, by simp only [vraw, List.getElem?_cons_succ] at h1 ⊢; exact h1, ?_⟩
    rw [vput_ge hn, ← h2]
    simp [vraw]
theorem put7 (n : Nat) (hn : n < 18446744073709551616) : TT.lim 8 [.i .u64 n] = some [.s (vput n)] := by
  have h8 := size8 n hn
  have hp := vsize_pos n
  have hs := vsize64 hn
  obtain ⟨s, hs1⟩ : ∃ s, vsize n = s + 1 := ⟨vsize n - 1, by omega⟩
  obtain ⟨x, h1, h2⟩ := vraw_put s n hs1
  rw [hs1] at h8
  have h10 : TT.lim 11 [.i .u64 n, .l ((List.replicate (s + 1) 0).map byteG), .i .i64 ((s + 1 : Nat) : Int), .i .i64 0] = some [.i .i64 0, .l ((vraw (s + 1) n).map byteG)] := by
    have := loop10 (s + 1) n [] hn (by simp; omega)
    simpa using this
  have hr : (List.replicate (s + 1) 0).map byteG = List.replicate (s + 1) (GV.i .u8 0) := by rw [List.map_replicate]; rfl
  rw [hr] at h10
  have hx : x < 256 := vraw_lt _ _ x (List.mem_of_getElem? h1)
  have ha := and127_8 x hx
  have hget : ((vraw (s + 1) n).map byteG)[s]? = some (byteG x) := by rw [List.getElem?_map, h1]; rfl
  have hset : ((vraw (s + 1) n).map byteG).set s (GV.i .u8 ((x % 128 : Nat) : Int)) = ((vraw (s + 1) n).set s (x % 128)).map byteG := (List.map_set (f := byteG) (l := vraw (s + 1) n) (i := s) (a := x % 128)).symm
  have hb := bytesG_map ((vraw (s + 1) n).set s (x % 128)) (fun y hy => by
    rcases List.mem_or_eq_of_mem_set hy with hy | rfl
    · exact vraw_lt _ _ y hy
    · omega)
  rw [h2] at hb
  have hlen : (((vraw (s + 1) n).set s (x % 128)).map byteG).length = s + 1 := by simp [vraw_len]
  have hlr : (List.replicate (s + 1) (GV.i .u8 0)).length = s + 1 := by simp
  have hl1 : ((vraw (s + 1) n).map byteG).length = s + 1 := by simp [vraw_len]
  generalize ((vraw (s + 1) n).set s (x % 128)).map byteG = L3 at hset hb hlen
  generalize (vraw (s + 1) n).map byteG = L2 at h10 hget hset hl1
  generalize hrep : List.replicate (s + 1) (GV.i .u8 0) = L1 at h10 hlr
  refine fn_lim rfl rfl ?_ rfl
  have hw := wrap64 (n := (s : Int)) (by omega) (by omega)
  have hcast : ((s + 1 : Nat) : Int) = (s : Int) + 1 := by omega
  rw [hcast] at h8 h10
  have hc1 : (0 : Int) ≤ (s : Int) + 1 ∧ (s : Int) + 1 ≤ 281474976710656 ∧ (s : Int) + 1 ≤ 1152921504606846976 := by omega
  have hc2 : ((s : Int) + 1).toNat = s + 1 := by omega
  have hlt : (s : Int) < (s : Int) + 1 := by omega
  have hs2 : (s : Int) + 1 - 1 = (s : Int) := by omega
  generalize hM : ((x % 128 : Nat) : Int) = M at ha hset
  have hxx : byteG x = .i .u8 x := rfl
  have h48 : s + 1 ≤ 281474976710656 := by omega
  have hg2 : L2[s]'(by omega) = byteG x := by have := hget; rw [List.getElem?_eq_getElem (by omega)] at this; exact Option.some.inj this
  simp [h8, hc1, hc2, hrep, hlr, h10, hl1, hs2, hw, hlt, hget, hg2, ha, hset, hxx, hlen, hb, h48, GV.elemOk]
theorem byteGs_append (a b : List UInt8) : byteGs (a ++ b) = byteGs a ++ byteGs b := by simp [byteGs]
@[simp] theorem byteGs_length (a : List UInt8) : (byteGs a).length = a.length := by simp [byteGs]
theorem byteGs_ok (a : List UInt8) : (byteGs a).all (GV.elemOk 1) = true := by
  rw [List.all_eq_true]
  intro x hx
  obtain ⟨b, _, rfl⟩ := List.mem_map.1 hx
  rfl
theorem bytesG_byteGs : ∀ a : List UInt8, bytesG (byteGs a) = some a
  | [] => rfl
  | x :: a => by
    have ih := bytesG_byteGs a
    simp only [byteGs, List.map_cons, bytesG] at ih ⊢
    have := x.toNat_lt
    rw [if_pos (by omega), ih]
    simp
def entPut (x : Ent) : List UInt8 := vput x.1.length ++ x.1 ++ vput x.2.length ++ x.2
def keyF (d : List Ent) : List UInt8 := vput d.length ++ d.flatMap entPut
theorem vput_len {n : Nat} (h : n < 18446744073709551616) : (vput n).length ≤ 10 := vsize64 h
theorem entput12 (x : Ent) (h1 : x.1.length ≤ 140737488351232) (h2 : x.2.length ≤ 140737488351232) : TT.lim 48 [ent x] = some [.s (entPut x)] := by
  have k1 := put7 x.1.length (by omega)
  have k2 := put7 x.2.length (by omega)
  have l1 := vput_len (n := x.1.length) (by omega)
  have l2 := vput_len (n := x.2.length) (by omega)
  have w1 := wrapu64 (n := (x.1.length : Int)) (by omega) (by omega)
  have w2 := wrapu64 (n := (x.2.length : Int)) (by omega) (by omega)
  refine fn_lim rfl rfl ?_ rfl
  have c1 : ((vput x.1.length).length : Int) + (x.1.length : Int) ≤ 9223372036854775807 := by omega
  have c2 : ((vput x.1.length).length : Int) + ((x.1.length : Int) + ((vput x.2.length).length : Int)) ≤ 9223372036854775807 := by omega
  have c3 : ((vput x.1.length).length : Int) + ((x.1.length : Int) + (((vput x.2.length).length : Int) + (x.2.length : Int))) ≤ 9223372036854775807 := by omega
  simp [w1, w2, k1, k2, c1, c2, c3, entPut, Int.add_assoc]
theorem entPut_len {x : Ent} (h : fewE x = true) : (entPut x).length ≤ 620 := by
  unfold fewE at h
  simp only [decide_eq_true_iff] at h
  have l1 := vput_len (n := x.1.length) (by omega)
  have l2 := vput_len (n := x.2.length) (by omega)
  simp only [entPut, List.length_append]
  omega
theorem flat_len620 : ∀ d : List Ent, d.all fewE = true → (d.flatMap entPut).length ≤ 620 * d.length
  | [], _ => by simp
  | x :: d, h => by
    rw [List.all_cons, Bool.and_eq_true] at h
    have := entPut_len h.1
    have := flat_len620 d h.2
    simp only [List.flatMap_cons, List.length_append, List.length_cons]
    omega
theorem loop11 (d : List Ent) (hf : d.all fewE = true) (hl : d.length ≤ 40) : ∀ (m i : Nat) (acc : List UInt8), i + m = d.length → acc.length ≤ 10 + 620 * i →
    TT.lim 47 [.l (d.map ent), .i .i64 d.length, .i .i64 i, .l (byteGs acc)] = some [.i .i64 0, .l (byteGs (acc ++ (d.drop i).flatMap entPut))]
  | 0, i, acc, hi, ha => by
    have h0 : d.drop i = [] := List.drop_eq_nil_of_le (by omega)
    refine tree_lim rfl rfl ?_
    have h : ¬ ((i : Int) < d.length) := by omega
    simp [h, h0]
  | m + 1, i, acc, hi, ha => by
    have hlt : i < d.length := by omega
    have hx := List.all_eq_true.1 hf d[i] (List.getElem_mem hlt)
    have hx1 := hx
    unfold fewE at hx1
    simp only [decide_eq_true_iff] at hx1
    have hp := entput12 d[i] (by omega) (by omega)
    have hpl := entPut_len hx
    have ih : TT.lim 47 [.l (d.map ent), .i .i64 d.length, .i .i64 ((i : Int) + 1), .l (byteGs (acc ++ entPut d[i]))] = _ := loop11 d hf hl m (i + 1) (acc ++ entPut d[i]) (by omega) (by simp; omega)
    rw [byteGs_append] at ih
    have hd : (d.drop i).flatMap entPut = entPut d[i] ++ (d.drop (i + 1)).flatMap entPut := by rw [List.drop_eq_getElem_cons hlt, List.flatMap_cons]
    rw [hd, ← List.append_assoc]
    refine tree_lim rfl rfl ?_
    have h : ((i : Int) < d.length) := by omega
    have hw := wrap64 (n := (i : Int) + 1) (by omega) (by omega)
    have hok := byteGs_ok (entPut d[i])
    have hb : 2 * (acc.length + (entPut d[i]).length) ≤ 281474976710656 ∧ acc.length + (entPut d[i]).length ≤ 281474976710656 := by omega
    have he : GV.g [GV.s d[i].1, GV.s d[i].2] = ent d[i] := rfl
    simp [-List.all_eq_true, h, hlt, he, hp, hok, hb, hw, ih]
theorem key6 (d : List Ent) (hf : few12 d = true) : TT.lim 46 [.l (d.map ent)] = some [.s (keyF d)] := by
  unfold few12 at hf
  rw [Bool.and_eq_true, decide_eq_true_iff] at hf
  have k := put7 d.length (by omega)
  have l1 := vput_len (n := d.length) (by omega)
  have w1 := wrapu64 (n := (d.length : Int)) (by omega) (by omega)
  have h11 : TT.lim 47 [.l (d.map ent), .i .i64 d.length, .i .i64 0, .l (byteGs (vput d.length))] = _ := loop11 d hf.1 hf.2 d.length 0 (vput d.length) (by omega) (by omega)
  rw [List.drop_zero] at h11
  have hb : 2 * (vput d.length).length ≤ 281474976710656 ∧ (vput d.length).length ≤ 281474976710656 := by omega
  have hok := byteGs_ok (vput d.length)
  have hfl := flat_len620 d hf.1
  have hc : (vput d.length).length + (List.flatMap entPut d).length ≤ 281474976710656 := by omega
  have hbg := bytesG_byteGs (vput d.length ++ d.flatMap entPut)
  refine fn_lim rfl rfl ?_ rfl
  unfold keyF
  generalize d.flatMap entPut = F at *
  simp [-List.all_eq_true, w1, k, hb, hok, h11, hc, hbg]
def utfChk (s : List UInt8) (lo hi : Int) : Int := if (s.length : Int) < lo then 13 else if hi < (s.length : Int) then 13 else if Lib.validD s = true then 0 else 11
theorem good20 (s : List UInt8) (h : s.length ≤ 140737488351232) : TT.lim 57 [.s s] = some [.b (Lib.validD s)] := by
  have h21 : TT.lim 58 [.s s] = some [.b (Lib.validD s)] := prim_lim (Ds := Ds) (k := 58) (f := validP) rfl (by simp only [validP]; rw [if_pos (by omega)])
  refine fn_lim rfl rfl ?_ rfl
  simp [h21]
theorem check19 (s : List UInt8) (lo hi : Int) (h : s.length ≤ 140737488351232) : TT.lim 56 [.s s, .i .i64 lo, .i .i64 hi] = some [.i .i64 (utfChk s lo hi)] := by
  have h20 := good20 s h
  refine fn_lim rfl rfl ?_ rfl
  unfold utfChk
  by_cases h1 : (s.length : Int) < lo
  · simp [h1]
  · by_cases h2 : hi < (s.length : Int)
    · simp [h1, h2]
    · cases hv : Lib.validD s <;> rw [hv] at h20 <;> simp [h1, h2, h20, hv]
def entChk (x : Ent) : Int := if utfChk x.1 1 64 ≠ 0 then utfChk x.1 1 64 else utfChk x.2 0 256
theorem entcheck18 (x : Ent) (h1 : x.1.length ≤ 140737488351232) (h2 : x.2.length ≤ 140737488351232) : TT.lim 55 [ent x] = some [.i .i64 (entChk x)] := by
  have k1 := check19 x.1 1 64 h1
  have k2 := check19 x.2 0 256 h2
  refine fn_lim rfl rfl ?_ rfl
  unfold entChk
  by_cases h : utfChk x.1 1 64 = 0
  · simp [k1, h, k2]
  · simp [k1, h]
def chkL : Option (List UInt8) → List Ent → Int
  | _, [] => 0
  | p, x :: xs => if entChk x ≠ 0 then entChk x else match p with
    | none => chkL (some x.1) xs
    | some k => if x.1 = k then 14 else if Op.bytesLess x.1 k = true then 7 else chkL (some x.1) xs
def tagged (r : Int) : List GV := if r = 0 then [.i .i64 1] else [.i .i64 0, .i .i64 r]
def prevK (d : List Ent) (i : Nat) : Option (List UInt8) := if i = 0 then none else (d[i - 1]?).map (·.1)
theorem loop17 (d : List Ent) (hd : Ents d) : ∀ m i : Nat, i + m = d.length → TT.lim 54 [.l (d.map ent), .i .i64 d.length, .i .i64 i] = some (tagged (chkL (prevK d i) (d.drop i)))
  | 0, i, hi => by
    have h0 : d.drop i = [] := List.drop_eq_nil_of_le (by omega)
    refine tree_lim rfl rfl ?_
    have h : ¬ ((i : Int) < d.length) := by omega
    simp [h, h0, chkL, tagged]
  | m + 1, i, hi => by
    have hlt : i < d.length := by omega
    have hx := hd.2 d[i] (List.getElem_mem hlt)
    have hp := entcheck18 d[i] hx.1 hx.2
    have ih : TT.lim 54 [.l (d.map ent), .i .i64 d.length, .i .i64 ((i : Int) + 1)] = _ := loop17 d hd m (i + 1) (by omega)
    have hpk : prevK d (i + 1) = some d[i].1 := by unfold prevK; rw [if_neg (by omega)]; simp [hlt]
    rw [hpk] at ih
    have hdr : d.drop i = d[i] :: d.drop (i + 1) := List.drop_eq_getElem_cons hlt
    rw [hdr]
    refine tree_lim rfl rfl ?_
    have h : ((i : Int) < d.length) := by omega
    have hw := wrap64 (n := (i : Int) + 1) (by omega) (by have := hd.1; omega)
    have he : GV.g [GV.s d[i].1, GV.s d[i].2] = ent d[i] := rfl
    by_cases h1 : entChk d[i] = 0
    rotate_left
    · simp [h, hlt, he, hp, h1, chkL, tagged]
    by_cases h0 : i = 0
    · subst h0
      simp only [Int.natCast_zero, Int.zero_add] at hw ih
      simp [h, hlt, he, hp, h1, chkL, prevK, hw]
      simpa using ih
    · have hi1 : i - 1 < d.length := by omega
      have hpk2 : prevK d i = some d[i - 1].1 := by unfold prevK; rw [if_neg h0]; simp [hi1]
      have hw2 := wrap64 (n := (i : Int) - 1) (by omega) (by have := hd.1; omega)
      have hi0 : ¬ ((i : Int) = 0) := by omega
      have hge : (0 : Int) ≤ (i : Int) - 1 := by omega
      have ht : ((i : Int) - 1).toNat = i - 1 := by omega
      have hnl : (1 : Int) ≤ (i : Int) := by omega
      rw [hpk2]
      by_cases h2 : d[i].1 = d[i - 1].1
      · have h2' : (d[i].1 = d[i - 1].1) = True := eq_true h2
        clear h2
        simp [h, hlt, he, hp, h1, hi0, h0, hw2, ht, hi1, h2', chkL, tagged, hnl]
      · cases h3 : Op.bytesLess d[i].1 d[i - 1].1 with
        | true => simp [h, hlt, he, hp, h1, hi0, h0, hw2, ht, hi1, h2, h3, chkL, tagged, hnl]
        | false => simp [h, hlt, he, hp, h1, hi0, h0, hw2, ht, hi1, h2, h3, chkL, hw, ih, hnl]
def descrChk (d : List Ent) : Int := if d.length = 0 then 12 else if 16 < d.length then 13 else chkL none d
theorem check16 (d : List Ent) (hd : Ents d) : TT.lim 53 [.l (d.map ent)] = some [.i .i64 (descrChk d)] := by
  have h17 : TT.lim 54 [.l (d.map ent), .i .i64 d.length, .i .i64 0] = _ := loop17 d hd d.length 0 (by omega)
  have hpk : prevK d 0 = none := rfl
  rw [hpk, List.drop_zero] at h17
  have w1 := wrapu64 (n := (d.length : Int)) (by omega) (by have := hd.1; omega)
  refine fn_lim rfl rfl ?_ rfl
  unfold descrChk
  by_cases h0 : d.length = 0
  · have h0' : (d.length : Int) = 0 := by omega
    have : d = [] := List.eq_nil_of_length_eq_zero h0
    subst this
    simp [IntKind.wrap, IntKind.signed]
  · have h0' : ¬ (d.length : Int) = 0 := by omega
    by_cases h1 : 16 < d.length
    · have h1' : (16 : Int) < (d.length : Int) := by omega
      simp [w1, h0, h1, h0', h1']
    · have h1' : ¬ (16 : Int) < (d.length : Int) := by omega
      by_cases h2 : chkL none d = 0
      · simp only [tagged, h2, if_true] at h17
        simp [w1, h0, h1, h0', h1', h17, h2]
      · simp only [tagged, h2, if_false] at h17
        simp [w1, h0, h1, h0', h1', h17]
def rowChk (r : Row) : Int := if descrChk r.1 ≠ 0 then descrChk r.1 else if r.2 = 0 then 18 else 0
theorem check15 (r : Row) (hd : Ents r.1) : TT.lim 52 [row r] = some [.i .i64 (rowChk r)] := by
  have k := check16 r.1 hd
  refine fn_lim rfl rfl ?_ rfl
  unfold rowChk
  by_cases h : descrChk r.1 = 0
  · by_cases h2 : r.2 = 0
    · simp [k, h, h2]
    · simp [k, h, h2]
  · simp [k, h]
def fewR (long : Bool) (r : Row) : Bool := decide (r.1.length ≤ 18) && few12 r.1 && (!long || decide ((keyF r.1).length ≤ 100))
theorem loop3 (l : List Row) (hl : Rows l) : ∀ m i : Nat, i + m = l.length → TT.lim 43 [.l (l.map row), .i .i64 l.length, .i .i64 i] = some (if (l.drop i).all (fewR (decide (40 < l.length))) = true then [.i .i64 1, .l (l.map row)] else [.i .i64 0])
  | 0, i, hi => by
    have h0 : l.drop i = [] := List.drop_eq_nil_of_le (by omega)
    refine tree_lim rfl rfl ?_
    have h : ¬ ((i : Int) < l.length) := by omega
    simp [h, h0]
  | m + 1, i, hi => by
    have hlt : i < l.length := by omega
    have hr := hl.2 l[i] (List.getElem_mem hlt)
    have ih : TT.lim 43 [.l (l.map row), .i .i64 l.length, .i .i64 ((i : Int) + 1)] = _ := loop3 l hl m (i + 1) (by omega)
    have hda : (l.drop i).all (fewR (decide (40 < l.length))) = (fewR (decide (40 < l.length)) l[i] && (l.drop (i + 1)).all (fewR (decide (40 < l.length)))) := by rw [List.drop_eq_getElem_cons hlt, List.all_cons]
    rw [hda]
    refine tree_lim rfl rfl ?_
    have h : ((i : Int) < l.length) := by omega
    have hw := wrap64 (n := (i : Int) + 1) (by omega) (by have := hl.1; omega)
    have h4 := few4 l[i].1 hr.1
    by_cases h1 : 18 < l[i].1.length
    · have h1' : (18 : Int) < (l[i].1.length : Int) := by omega
      have : fewR (decide (40 < l.length)) l[i] = false := by unfold fewR; simp; omega
      rw [this]
      simp [h, hlt, h1']
    have h1' : ¬ (18 : Int) < (l[i].1.length : Int) := by omega
    have h1d : l[i].1.length ≤ 18 := by omega
    cases hf : few12 l[i].1 with
    | false =>
      rw [hf] at h4
      have : fewR (decide (40 < l.length)) l[i] = false := by unfold fewR; simp [hf]
      rw [this]
      simp [h, hlt, h1', h4]
    | true =>
      rw [hf] at h4
      have k6 := key6 l[i].1 hf
      by_cases h2 : 40 < l.length
      · have h2' : (40 : Int) < (l.length : Int) := by omega
        by_cases h3 : 100 < (keyF l[i].1).length
        · have h3' : (100 : Int) < ((keyF l[i].1).length : Int) := by omega
          have : fewR (decide (40 < l.length)) l[i] = false := by unfold fewR; simp [h2]; omega
          rw [this]
          simp [h, hlt, h1', h4, h2', k6, h3']
        · have h3' : ¬ (100 : Int) < ((keyF l[i].1).length : Int) := by omega
          have : fewR (decide (40 < l.length)) l[i] = true := by unfold fewR; simp [h2, hf, h1d]; omega
          rw [this, Bool.true_and]
          simp [h, hlt, h1', h4, h2', k6, h3', hw, ih]
      · have h2' : ¬ (40 : Int) < (l.length : Int) := by omega
        have : fewR (decide (40 < l.length)) l[i] = true := by unfold fewR; simp [h2, hf, h1d]
        rw [this, Bool.true_and]
        simp [h, hlt, h1', h4, h2', hw, ih]
def few13 (l : List Row) : Bool := l.all (fewR (decide (40 < l.length))) && decide (l.length ≤ 300)
theorem few2 (l : List Row) (hl : Rows l) : TT.lim 42 [.l (l.map row)] = some [.b (few13 l)] := by
  refine fn_lim rfl rfl ?_ rfl
  have h3 : TT.lim 43 [.l (l.map row), .i .i64 l.length, .i .i64 0] = _ := loop3 l hl l.length 0 (by omega)
  rw [List.drop_zero] at h3
  unfold few13
  cases hc : l.all (fewR (decide (40 < l.length))) with
  | false => rw [hc] at h3; simp [h3]
  | true =>
    rw [hc] at h3; simp only [if_true] at h3
    have : (decide ((l.length : Int) ≤ 300)) = decide (l.length ≤ 300) := by rw [Bool.eq_iff_iff]; simp; omega
    simp [h3, this]
theorem few13_few {l : List Row} (h : few13 l = true) : ∀ r ∈ l, few12 r.1 = true := by
  unfold few13 at h
  rw [Bool.and_eq_true] at h
  intro r hr
  have := List.all_eq_true.1 h.1 r hr
  unfold fewR at this
  simp only [Bool.and_eq_true] at this
  exact this.1.2
abbrev K (r : Row) : List UInt8 := keyF r.1
theorem eqGs_ent (x y : Ent) : eqGs [1, 1] [.s x.1, .s x.2] [.s y.1, .s y.2] = some (decide (x = y)) := by
  simp only [eqGs, Option.map_some, Bool.and_true]
  congr 1
  rw [Bool.eq_iff_iff]
  simp [Prod.ext_iff]
theorem loop32 (d e : List Ent) (hl : d.length = e.length) (hb : d.length ≤ 140737488351232) : ∀ m i : Nat, i + m = d.length →
    TT.lim 109 [.l (d.map ent), .l (e.map ent), .i .i64 d.length, .i .i64 i] = some (if d.drop i = e.drop i then [.i .i64 1] else [.i .i64 0])
  | 0, i, hi => by
    have h0 : d.drop i = [] := List.drop_eq_nil_of_le (by omega)
    have h1 : e.drop i = [] := List.drop_eq_nil_of_le (by omega)
    refine tree_lim rfl rfl ?_
    have h : ¬ ((i : Int) < d.length) := by omega
    simp [h, h0, h1]
  | m + 1, i, hi => by
    have hlt : i < d.length := by omega
    have hlt2 : i < e.length := by omega
    have ih : TT.lim 109 [.l (d.map ent), .l (e.map ent), .i .i64 d.length, .i .i64 ((i : Int) + 1)] = _ := loop32 d e hl hb m (i + 1) (by omega)
    have hd : (d.drop i = e.drop i) ↔ (d[i] = e[i] ∧ d.drop (i + 1) = e.drop (i + 1)) := by
      rw [List.drop_eq_getElem_cons hlt, List.drop_eq_getElem_cons hlt2, List.cons.injEq]
    have hq := eqGs_ent d[i] e[i]
    refine tree_lim rfl rfl ?_
    have h : ((i : Int) < d.length) := by omega
    have hw := wrap64 (n := (i : Int) + 1) (by omega) (by omega)
    by_cases h1 : d[i] = e[i]
    · have h2 : (d.drop i = e.drop i) ↔ (d.drop (i + 1) = e.drop (i + 1)) := by rw [hd]; simp [h1]
      have hq' : eqGs [1, 1] [.s d[i].1, .s d[i].2] [.s e[i].1, .s e[i].2] = some true := by rw [hq]; simp [h1]
      simp only [h2]
      simp [h, hlt, hlt2, hq', hw, ih]
    · have h2 : ¬ (d.drop i = e.drop i) := by rw [hd]; simp [h1]
      have hq' : eqGs [1, 1] [.s d[i].1, .s d[i].2] [.s e[i].1, .s e[i].2] = some false := by rw [hq]; simp [h1]
      rw [if_neg h2]
      simp [h, hlt, hlt2, hq']
theorem equal31 (d e : List Ent) (hb : d.length ≤ 140737488351232) (hb2 : e.length ≤ 140737488351232) : TT.lim 108 [.l (d.map ent), .l (e.map ent)] = some [.b (decide (d = e))] := by
  refine fn_lim rfl rfl ?_ rfl
  by_cases hl : d.length = e.length
  · have hl' : (d.length : Int) = (e.length : Int) := by omega
    have h32 : TT.lim 109 [.l (d.map ent), .l (e.map ent), .i .i64 d.length, .i .i64 0] = _ := loop32 d e hl hb d.length 0 (by omega)
    rw [List.drop_zero, List.drop_zero] at h32
    by_cases h : d = e
    · rw [if_pos h] at h32
      have h' : (d = e) = True := eq_true h
      clear h
      rw [hl'] at h32
      simp [hl', h32, h']
    · rw [if_neg h] at h32
      rw [hl'] at h32
      simp [hl', h32, h]
  · have hl' : ¬ (d.length : Int) = (e.length : Int) := by omega
    have h : ¬ d = e := fun h => hl (by rw [h])
    simp [hl', hl, h]
theorem rowEq30 (r s : Row) (hb : r.1.length ≤ 140737488351232) (hb2 : s.1.length ≤ 140737488351232) : TT.lim 107 [row r, row s] = some [.b (decide (r = s))] := by
  have k := equal31 r.1 s.1 hb hb2
  refine fn_lim rfl rfl ?_ rfl
  by_cases h : r.2 = s.2
  · have : decide (r = s) = decide (r.1 = s.1) := by rw [Bool.eq_iff_iff]; simp [Prod.ext_iff, h]
    rw [this]
    simp [h, k]
  · have : decide (r = s) = false := by rw [decide_eq_false_iff_not]; intro e; exact h (by rw [e])
    rw [this]
    simp [h]
theorem loop29 (a b : List Row) (hl : a.length = b.length) (hb : a.length ≤ 140737488351232) (h1 : ∀ r ∈ a, r.1.length ≤ 140737488351232) (h2 : ∀ r ∈ b, r.1.length ≤ 140737488351232) : ∀ m i : Nat, i + m = a.length →
    TT.lim 106 [.l (b.map row), .l (a.map row), .i .i64 a.length, .i .i64 i] = some (if a.drop i = b.drop i then [.i .i64 1] else [.i .i64 0])
  | 0, i, hi => by
    have h0 : a.drop i = [] := List.drop_eq_nil_of_le (by omega)
    have h1 : b.drop i = [] := List.drop_eq_nil_of_le (by omega)
    refine tree_lim rfl rfl ?_
    have h : ¬ ((i : Int) < a.length) := by omega
    simp [h, h0, h1]
  | m + 1, i, hi => by
    have hlt : i < a.length := by omega
    have hlt2 : i < b.length := by omega
    have ih : TT.lim 106 [.l (b.map row), .l (a.map row), .i .i64 a.length, .i .i64 ((i : Int) + 1)] = _ := loop29 a b hl hb h1 h2 m (i + 1) (by omega)
    have hd : (a.drop i = b.drop i) ↔ (a[i] = b[i] ∧ a.drop (i + 1) = b.drop (i + 1)) := by
      rw [List.drop_eq_getElem_cons hlt, List.drop_eq_getElem_cons hlt2, List.cons.injEq]
    have k := rowEq30 a[i] b[i] (h1 _ (List.getElem_mem hlt)) (h2 _ (List.getElem_mem hlt2))
    have r1 : GV.g [.l (a[i].1.map ent), .i .u64 a[i].2] = row a[i] := rfl
    have r2 : GV.g [.l (b[i].1.map ent), .i .u64 b[i].2] = row b[i] := rfl
    refine tree_lim rfl rfl ?_
    have h : ((i : Int) < a.length) := by omega
    have hw := wrap64 (n := (i : Int) + 1) (by omega) (by omega)
    by_cases h3 : a[i] = b[i]
    · have h4 : (a.drop i = b.drop i) ↔ (a.drop (i + 1) = b.drop (i + 1)) := by rw [hd]; simp [h3]
      simp only [h4]
      have k' : TT.lim 107 [row a[i], row b[i]] = some [.b true] := by rw [k]; simp [h3]
      simp [h, hlt, hlt2, r1, r2, k', hw, ih]
    · have h4 : ¬ (a.drop i = b.drop i) := by rw [hd]; simp [h3]
      rw [if_neg h4]
      have k' : TT.lim 107 [row a[i], row b[i]] = some [.b false] := by rw [k]; simp [h3]
      simp [h, hlt, hlt2, r1, r2, k']
theorem same27 (a b : List Row) (hb : a.length ≤ 140737488351232) (hb2 : b.length ≤ 140737488351232) (h1 : ∀ r ∈ a, r.1.length ≤ 140737488351232) (h2 : ∀ r ∈ b, r.1.length ≤ 140737488351232) : TT.lim 104 [.l (a.map row), .l (b.map row)] = some [.b (decide (a = b))] := by
  have h28 : TT.lim 105 [.l (a.map row), .l (b.map row)] = some [.b (decide (a = b))] := by
    refine fn_lim rfl rfl ?_ rfl
    by_cases hl : a.length = b.length
    · have hl' : (a.length : Int) = (b.length : Int) := by omega
      have h29 : TT.lim 106 [.l (b.map row), .l (a.map row), .i .i64 a.length, .i .i64 0] = _ := loop29 a b hl hb h1 h2 a.length 0 (by omega)
      rw [List.drop_zero, List.drop_zero] at h29
      rw [hl'] at h29
      by_cases h : a = b
      · rw [if_pos h] at h29
        have h' : (a = b) = True := eq_true h
        clear h
        simp [hl', h29, h']
      · rw [if_neg h] at h29
        simp [hl', h29, h]
    · have hl' : ¬ (a.length : Int) = (b.length : Int) := by omega
      have h : ¬ a = b := fun h => hl (by rw [h])
      simp [hl', hl, h]
  refine fn_lim rfl rfl ?_ rfl
  simp [h28]
theorem bl_iff (a b : List UInt8) : Op.bytesLess a b = true ↔ a < b := by rw [bytesLess_lt]; simp
/-- Rows whose keys rise. -/
def Rise (l : List Row) : Prop := l.Pairwise fun a b => K a < K b
theorem ents_of {cs : List GV} {r0 : List GV} (h : GTy.hasL [.list true [.str, .str], .int .u64] cs) : ∃ r : Row, (Ents r.1 ∧ 0 ≤ r.2 ∧ r.2 < 18446744073709551616) ∧ GV.g cs = row r := by
  obtain ⟨g, l, rfl, h1, h⟩ := hasL_cons h
  obtain ⟨n, l, rfl, h2, h⟩ := hasL_cons h
  obtain rfl := hasL_nil h
  obtain ⟨n, rfl, n1, n2⟩ := has_u64 h2
  obtain ⟨xs, rfl, h3, h4⟩ := has_list h1
  obtain ⟨d, hd, rfl⟩ : ∃ d : List Ent, (∀ x ∈ d, x.1.length ≤ 140737488351232 ∧ x.2.length ≤ 140737488351232) ∧ xs = d.map ent := list_map fun x hx => by
    obtain ⟨k1, k2⟩ := h4 x hx
    cases x <;> simp [GV.scalar] at k2
    obtain ⟨a, l, e1, a1, k1⟩ := hasL_cons k1
    obtain ⟨b, l, rfl, b1, k1⟩ := hasL_cons k1
    obtain rfl := hasL_nil k1
    obtain ⟨s, rfl, s1⟩ := has_str a1
    obtain ⟨u, rfl, u1⟩ := has_str b1
    simp only [cells_g] at e1
    subst e1
    exact ⟨(s, u), ⟨Nat.le_trans s1 (by decide), Nat.le_trans u1 (by decide)⟩, rfl⟩
  exact ⟨(d, n), ⟨⟨by have := Nat.le_trans h3 (by decide : reachBytes ≤ 140737488351232); simpa using this, hd⟩, n1, n2⟩, rfl⟩
abbrev rowsTy : List GTy := [.list true [.list true [.str, .str], .int .u64]]
theorem rows_of {g : GV} (h : (GTy.list true [.list true [.str, .str], .int .u64]).has g) : ∃ l : List Row, Rows l ∧ g = .l (l.map row) := by
  obtain ⟨xs, rfl, h1, h2⟩ := has_list h
  obtain ⟨l, hl, rfl⟩ : ∃ l : List Row, (∀ r ∈ l, Ents r.1 ∧ 0 ≤ r.2 ∧ r.2 < 18446744073709551616) ∧ xs = l.map row := list_map fun x hx => by
    obtain ⟨k1, k2⟩ := h2 x hx
    cases x <;> simp [GV.scalar] at k2
    obtain ⟨r, hr, e⟩ := ents_of (r0 := []) k1
    exact ⟨r, hr, e⟩
  exact ⟨l, ⟨by have := Nat.le_trans h1 (by decide : reachBytes ≤ 140737488351232); simpa using this, hl⟩, rfl⟩
def chkR : Option (List UInt8) → List Row → Int
  | _, [] => 0
  | p, r :: rs => if rowChk r ≠ 0 then rowChk r else match p with
    | none => chkR (some (K r)) rs
    | some k => if K r = k then 14 else if Op.bytesLess (K r) k = true then 7 else chkR (some (K r)) rs
theorem loop38 (t : List Row) (ht : Rows t) (hf : ∀ r ∈ t, few12 r.1 = true) : ∀ (m i : Nat) (p : List UInt8), i + m = t.length →
    TT.lim 51 [.s p, .l (t.map row), .i .i64 t.length, .i .i64 i] = some (tagged (chkR (if i = 0 then none else some p) (t.drop i)))
  | 0, i, p, hi => by
    have h0 : t.drop i = [] := List.drop_eq_nil_of_le (by omega)
    refine tree_lim rfl rfl ?_
    have h : ¬ ((i : Int) < t.length) := by omega
    simp [h, h0, chkR, tagged]
  | m + 1, i, p, hi => by
    have hlt : i < t.length := by omega
    have hr := ht.2 t[i] (List.getElem_mem hlt)
    have k15 := check15 t[i] hr.1
    have k6 := key6 t[i].1 (hf _ (List.getElem_mem hlt))
    have hrow : GV.g [.l (t[i].1.map ent), .i .u64 t[i].2] = row t[i] := rfl
    have ih : TT.lim 51 [.s (keyF t[i].1), .l (t.map row), .i .i64 t.length, .i .i64 ((i : Int) + 1)] = _ := loop38 t ht hf m (i + 1) (keyF t[i].1) (by omega)
    rw [if_neg (by omega)] at ih
    rw [List.drop_eq_getElem_cons hlt]
    refine tree_lim rfl rfl ?_
    have h : ((i : Int) < t.length) := by omega
    have hw := wrap64 (n := (i : Int) + 1) (by omega) (by have := ht.1; omega)
    by_cases h1 : rowChk t[i] = 0
    rotate_left
    · simp [-List.getElem_cons_drop, h, hlt, hrow, k15, h1, chkR, tagged]
    by_cases h0 : i = 0
    · subst h0
      simp only [Int.natCast_zero, Int.zero_add] at hw ih
      simp [-List.getElem_cons_drop, h, hlt, hrow, k15, h1, k6, hw, chkR]
      have hn : (0 : Int) < (t.length : Int) := by omega
      simpa using ih
    · have hi0 : 0 < i := by omega
      by_cases h2 : keyF t[i].1 = p
      · have h2' : (keyF t[i].1 = p) = True := eq_true h2
        clear h2
        simp [-List.getElem_cons_drop, h, hlt, hrow, k15, h1, k6, hi0, h0, h2', chkR, tagged]
      · cases h3 : Op.bytesLess (keyF t[i].1) p with
        | true => simp [-List.getElem_cons_drop, h, hlt, hrow, k15, h1, k6, hi0, h0, h2, h3, chkR, tagged]
        | false => simp [-List.getElem_cons_drop, h, hlt, hrow, k15, h1, k6, hi0, h0, h2, h3, hw, ih, chkR]
def checkT (t : List Row) : Int := if 256 < t.length then 13 else chkR none t
theorem check37 (t : List Row) (ht : Rows t) (hf : ∀ r ∈ t, few12 r.1 = true) : TT.lim 50 [.l (t.map row)] = some [.i .i64 (checkT t)] := by
  have h38 : TT.lim 51 [.s [], .l (t.map row), .i .i64 t.length, .i .i64 0] = _ := loop38 t ht hf t.length 0 [] (by omega)
  rw [if_pos rfl, List.drop_zero] at h38
  refine fn_lim rfl rfl ?_ rfl
  unfold checkT
  by_cases h1 : 256 < t.length
  · have h1' : (256 : Int) < (t.length : Int) := by omega
    simp [h1, h1']
  · have h1' : ¬ (256 : Int) < (t.length : Int) := by omega
    by_cases h2 : chkR none t = 0
    · simp only [tagged, h2, if_true] at h38
      simp [h1, h1', h38, h2]
    · simp only [tagged, h2, if_false] at h38
      simp [h1, h1', h38, h2]
theorem chkR_rise : ∀ {t : List Row} (p : Option (List UInt8)), Rise t → (∀ r ∈ t, rowChk r = 0) → (∀ k, p = some k → ∀ r ∈ t, k < K r) → chkR p t = 0
  | [], p, _, _, _ => by cases p <;> rfl
  | r :: t, p, ht, hc, hp => by
    have ht' := List.pairwise_cons.1 ht
    have ih := chkR_rise (t := t) (some (K r)) ht'.2 (fun x hx => hc x (by simp [hx])) (fun k hk x hx => by cases hk; exact ht'.1 x hx)
    unfold chkR
    rw [if_neg (by simp [hc r (by simp)])]
    cases p with
    | none => exact ih
    | some k =>
      have hk := hp k rfl r (by simp)
      have h1 : ¬ K r = k := fun e => by rw [e] at hk; exact List.lt_irrefl _ hk
      have h2 : ¬ Op.bytesLess (K r) k = true := fun e => List.lt_irrefl _ (List.lt_trans hk ((bl_iff _ _).1 e))
      simp only
      rw [if_neg h1, if_neg h2]
      exact ih
def Pos (t : List Row) : Prop := ∀ r ∈ t, 0 < r.2 ∧ r.2 < 18446744073709551616
def Few (t : List Row) : Prop := ∀ r ∈ t, few12 r.1 = true
def Ok (t : List Row) : Prop := t.length ≤ 256 ∧ Rise t ∧ ∀ r ∈ t, rowChk r = 0
theorem chkR_inv : ∀ {t : List Row} (p : Option (List UInt8)), chkR p t = 0 → Rise t ∧ (∀ r ∈ t, rowChk r = 0) ∧ ∀ k, p = some k → ∀ r ∈ t, k < K r
  | [], p, _ => ⟨List.Pairwise.nil, by simp, by simp⟩
  | r :: t, p, h => by
    unfold chkR at h
    by_cases h1 : rowChk r = 0
    rotate_left
    · rw [if_pos h1] at h; exact absurd h h1
    rw [if_neg (by simp [h1])] at h
    have main : ∀ (h : chkR (some (K r)) t = 0), Rise (r :: t) ∧ ∀ x ∈ r :: t, rowChk x = 0 := by
      intro h
      obtain ⟨i1, i2, i3⟩ := chkR_inv (some (K r)) h
      refine ⟨List.Pairwise.cons (i3 _ rfl) i1, fun x hx => ?_⟩
      rcases List.mem_cons.1 hx with rfl | hx
      · exact h1
      · exact i2 x hx
    cases p with
    | none => exact ⟨(main h).1, (main h).2, by simp⟩
    | some k =>
      simp only at h
      split at h
      · cases h
      next h2 =>
      split at h
      · cases h
      next h3 =>
      refine ⟨(main h).1, (main h).2, ?_⟩
      rintro _ ⟨⟩ x hx
      have hk : k < K r := by
        rcases List.le_iff_lt_or_eq.1 (List.not_lt.1 fun e => h3 ((bl_iff _ _).2 e)) with e | e
        · exact e
        · exact absurd e.symm h2
      rcases List.mem_cons.1 hx with rfl | hx
      · exact hk
      · exact List.lt_trans hk ((List.pairwise_cons.1 (main h).1).1 x hx)
theorem checkT_iff (t : List Row) : checkT t = 0 ↔ Ok t := by
  unfold checkT Ok
  constructor
  · intro h
    split at h
    · cases h
    · obtain ⟨h1, h2, _⟩ := chkR_inv none h
      exact ⟨by omega, h1, h2⟩
  · rintro ⟨h1, h2, h3⟩
    rw [if_neg (by omega)]
    exact chkR_rise none h2 h3 (by simp)
theorem rowChk_iff (r : Row) : rowChk r = 0 ↔ descrChk r.1 = 0 ∧ r.2 ≠ 0 := by
  unfold rowChk
  by_cases h : descrChk r.1 = 0
  · simp [h]
  · simp [h]
structure Tb (t : List Row) : Prop where
  ok : Ok t
  rows : Rows t
  few : Few t
theorem Tb.pos {t : List Row} (h : Tb t) : Pos t := fun r hr => by
  have h1 := ((rowChk_iff r).1 (h.ok.2.2 r hr)).2
  have h2 := (h.rows.2 r hr).2
  omega
structure GoodT (t : List Row) : Prop where
  len : t.length ≤ 300
  few : Few t
  rows : Rows t
theorem GoodT.tb {t : List Row} (h : GoodT t) (ho : Ok t) : Tb t := ⟨ho, h.rows, h.few⟩
theorem good_of {l : List Row} (hl : Rows l) (h : few13 l = true) : GoodT l := by
  refine ⟨?_, fun r hr => few13_few h r hr, hl⟩
  unfold few13 at h
  rw [Bool.and_eq_true, decide_eq_true_iff] at h
  exact h.2
theorem same_good (a b : List Row) (ha : GoodT a) (hb : GoodT b) : TT.lim 104 [.l (a.map row), .l (b.map row)] = some [.b (decide (a = b))] :=
  same27 a b (by have := ha.len; omega) (by have := hb.len; omega) (fun r hr => (ha.rows.2 r hr).1.1) (fun r hr => (hb.rows.2 r hr).1.1)
def behE (p x : List UInt8) : Int := if x = p then 14 else if Op.bytesLess x p = true then 7 else 0
theorem key_len {d : List Ent} (hf : few12 d = true) : (keyF d).length ≤ 30000 := by
  unfold few12 at hf
  rw [Bool.and_eq_true, decide_eq_true_iff] at hf
  have l1 := vput_len (n := d.length) (by omega)
  have := flat_len620 d hf.1
  unfold keyF
  simp only [List.length_append]; omega
def common : List UInt8 → List UInt8 → Nat
  | a :: x, b :: y => if a = b then common x y + 1 else 0
  | _, _ => 0
theorem common_nil (b : List UInt8) : common [] b = 0 := by unfold common; rfl
theorem common_nil' (a : List UInt8) : common a [] = 0 := by cases a <;> rfl
theorem common_le : ∀ a b : List UInt8, common a b ≤ a.length ∧ common a b ≤ b.length
  | [], b => by simp [common]
  | _ :: _, [] => by simp [common]
  | a :: x, b :: y => by
    unfold common
    have := common_le x y
    split
    · simp only [List.length_cons]; omega
    · omega
theorem common_take : ∀ a b : List UInt8, a.take (common a b) = b.take (common a b)
  | [], b => by simp [common]
  | _ :: _, [] => by simp [common]
  | a :: x, b :: y => by
    unfold common
    split
    · next e => subst e; rw [List.take_succ_cons, List.take_succ_cons, common_take x y]
    · simp
theorem comLoop (a b : List UInt8) (ha : a.length ≤ 140737488351232) (hb : b.length ≤ 140737488351232) : ∀ m i : Nat, i + m = a.length → TT.lim 7 [.s a, .s b, .i .i64 i] = some [.i .i64 0, .i .i64 ((i + common (a.drop i) (b.drop i) : Nat) : Int)]
  | 0, i, hi => by
    have h0 : a.drop i = [] := List.drop_eq_nil_of_le (by omega)
    have h : ¬ ((i : Int) < a.length) := by omega
    refine tree_lim rfl rfl ?_
    simp [h, h0, common_nil]
  | m + 1, i, hi => by
    have hlt : i < a.length := by omega
    have h : ((i : Int) < a.length) := by omega
    by_cases hlb : i < b.length
    rotate_left
    · have h0 : b.drop i = [] := List.drop_eq_nil_of_le (by omega)
      have h1 : ¬ ((i : Int) < b.length) := by omega
      refine tree_lim rfl rfl ?_
      simp [h, h0, h1, common_nil']
    have hb1 : ((i : Int) < b.length) := by omega
    have ih : TT.lim 7 [.s a, .s b, .i .i64 ((i : Int) + 1)] = _ := comLoop a b ha hb m (i + 1) (by omega)
    have hw := wrap64 (n := (i : Int) + 1) (by omega) (by omega)
    rw [List.drop_eq_getElem_cons hlt, List.drop_eq_getElem_cons hlb]
    unfold common
    by_cases e : a[i] = b[i]
    · rw [if_pos e]
      have e' : ((a[i].toNat : Int) = (b[i].toNat : Int)) = True := eq_true (by rw [e])
      have e2 : ((i + (common (a.drop (i + 1)) (b.drop (i + 1)) + 1) : Nat) : Int) = ((i + 1 + common (a.drop (i + 1)) (b.drop (i + 1)) : Nat) : Int) := by omega
      rw [e2]
      refine tree_lim rfl rfl ?_
      simp [h, hlt, hlb, hb1, e', hw, ih]
    · rw [if_neg e]
      have e' : ¬ (a[i].toNat : Int) = (b[i].toNat : Int) := fun h => e (UInt8.toNat_inj.1 (by omega))
      refine tree_lim rfl rfl ?_
      simp [h, hlt, hlb, hb1, e']
theorem comP (a b : List UInt8) (ha : a.length ≤ 140737488351232) (hb : b.length ≤ 140737488351232) : TT.lim 6 [.s a, .s b] = some [.i .i64 (common a b)] := by
  have k : TT.lim 7 [.s a, .s b, .i .i64 0] = _ := comLoop a b ha hb a.length 0 (by omega)
  rw [List.drop_zero, List.drop_zero, Nat.zero_add] at k
  refine fn_lim rfl rfl ?_ rfl
  simp [k]
/-- A text behind another one, as it is written. -/
def oneF (a s : List UInt8) : List UInt8 := vput (common a s) ++ vput (s.length - common a s) ++ s.drop (common a s)
theorem oneP (a s : List UInt8) (ha : a.length ≤ 100000000) (hs : s.length ≤ 100000000) : TT.lim 5 [.s a, .s s] = some [.s (oneF a s)] := by
  have k := comP a s (by omega) (by omega)
  have hl := common_le a s
  have p1 := put7 (common a s) (by omega)
  have p2 := put7 (s.length - common a s) (by omega)
  have l1 := vput_len (n := common a s) (by omega)
  have l2 := vput_len (n := s.length - common a s) (by omega)
  have w1 := wrapu64 (n := (common a s : Int)) (by omega) (by omega)
  have w2 := wrapu64 (n := (s.length : Int) - (common a s : Int)) (by omega) (by omega)
  have w3 := wrap64 (n := (s.length : Int) - (common a s : Int)) (by omega) (by omega)
  have e2 : (s.length : Int) - (common a s : Int) = ((s.length - common a s : Nat) : Int) := by omega
  rw [e2] at w2 w3
  refine fn_lim rfl rfl ?_ rfl
  unfold oneF
  generalize common a s = c at *
  have h1 : ((vput c).length : Int) + ((vput (s.length - c)).length : Int) ≤ 9223372036854775807 := by omega
  have h2 : ((vput c).length : Int) + ((vput (s.length - c)).length : Int) + ((s.length : Int) - (c : Int)) ≤ 9223372036854775807 := by omega
  have h3 : (c : Int) ≤ s.length := by omega
  have h4 : ((s.length - c : Nat) : Int) = (s.length : Int) - c := by omega
  have hd : (s.take s.length).drop c = s.drop c := by rw [List.take_length]
  rw [← e2] at w2 w3
  rw [← e2] at p2
  simp [k, p1, p2, w1, w2, w3, h1, h2, h3, h4, hd]
def vval : List UInt8 → Nat
  | [] => 0
  | b :: r => b.toNat % 128 + 128 * vval r
def vlen : Nat → List UInt8 → Option Nat
  | 0, _ => none
  | _ + 1, [] => none
  | n + 1, b :: r => if b.toNat < 128 then some 1 else (vlen n r).map (· + 1)
def vbad (k : Nat) (b : Nat) : Int := if k = 10 ∧ 1 < b then 3 else if 1 < k ∧ b = 0 then 2 else 0
/-- The number that a text begins with, in how many bytes, or why there is none. -/
def vget (s : List UInt8) : Nat × Nat × Int := match vlen 10 s with
  | none => (0, 0, if 10 ≤ s.length then 3 else 1)
  | some k => if vbad k (s.getD (k - 1) 0).toNat ≠ 0 then (0, 0, vbad k (s.getD (k - 1) 0).toNat) else (vval (s.take k), k, 0)
theorem vlen_some : ∀ {n : Nat} {s : List UInt8} {k : Nat}, vlen n s = some k → 1 ≤ k ∧ k ≤ n ∧ k ≤ s.length ∧ (s.getD (k - 1) 0).toNat < 128
  | 0, s, k, h => by simp [vlen] at h
  | n + 1, [], k, h => by simp [vlen] at h
  | n + 1, b :: r, k, h => by
    unfold vlen at h
    split at h
    · next hb => cases h; simpa using hb
    · obtain ⟨j, hj, rfl⟩ := Option.map_eq_some_iff.1 h
      obtain ⟨h1, h2, h3, h4⟩ := vlen_some hj
      obtain ⟨i, rfl⟩ : ∃ i, j = i + 1 := ⟨j - 1, by omega⟩
      refine ⟨by omega, by omega, by simp; omega, ?_⟩
      simpa using h4
theorem vval_lt : ∀ (s : List UInt8), vval s < 128 ^ s.length
  | [] => by simp [vval]
  | b :: r => by
    have := vval_lt r
    simp only [vval, List.length_cons, Nat.pow_succ]
    omega
theorem shl7 (b i : Nat) (hb : b < 128) (hi : i ≤ 9) (h9 : i = 9 → b ≤ 1) : shG .shl .u64 (b : Int) ((7 * i : Nat) : Int) = some (.i .u64 ((b * 128 ^ i : Nat) : Int)) := by
  have e : min ((7 * i : Nat) : Int).toNat 64 = 7 * i := by simp; omega
  have e2 : (2 : Int) ^ (7 * i) = ((128 ^ i : Nat) : Int) := by rw [Int.pow_mul]; simp
  have hlt : b * 128 ^ i < 18446744073709551616 := by
    rcases Nat.lt_or_ge i 9 with h | h
    · have : (128 : Nat) ^ i ≤ 128 ^ 8 := Nat.pow_le_pow_right (by omega) (by omega)
      have h2 : b * 128 ^ i ≤ 127 * 128 ^ 8 := Nat.mul_le_mul (by omega) this
      omega
    · have hi9 : i = 9 := by omega
      subst hi9
      have := h9 rfl
      omega
  unfold shG
  rw [if_neg (by omega)]
  show some (GV.i .u64 (IntKind.u64.wrap ((b : Int) * 2 ^ (min ((7 * i : Nat) : Int).toNat 64)))) = _
  rw [e, e2, ← Int.natCast_mul, wrapu64 (by omega) (by omega)]
theorem orI (a c i : Nat) (ha : a < 2 ^ i) (h : a + c * 2 ^ i < 18446744073709551616) : intG .or .u64 (a : Int) ((c * 2 ^ i : Nat) : Int) = some (.i .u64 ((a + c * 2 ^ i : Nat) : Int)) := by
  have h1 : ((BitVec.ofInt 64 (a : Int) ||| BitVec.ofInt 64 ((c * 2 ^ i : Nat) : Int)).toNat : Nat) = a + c * 2 ^ i := by
    rw [BitVec.toNat_or, BitVec.toNat_ofInt, BitVec.toNat_ofInt]
    generalize hC : c * 2 ^ i = C at *
    have e1 : ((a : Int) % ((2 ^ 64 : Nat) : Int)).toNat = a := by omega
    have e2 : ((C : Int) % ((2 ^ 64 : Nat) : Int)).toNat = C := by omega
    rw [e1, e2, ← hC, Nat.or_comm, Nat.mul_comm, Nat.add_comm]
    exact (Nat.two_pow_add_eq_or_of_lt ha c).symm
  show some (GV.i .u64 (IntKind.u64.wrap (((BitVec.ofInt 64 (a : Int) ||| BitVec.ofInt 64 ((c * 2 ^ i : Nat) : Int)).toNat : Nat) : Int))) = _
  rw [h1, wrapu64 (by omega) (by omega)]
theorem p128 (i : Nat) : 128 ^ i = 2 ^ (7 * i) := by rw [Nat.pow_mul]
/-- Some number, whichever. -/
theorem shl_some (a b : Int) (hb : 0 ≤ b) : ∃ r, shG .shl .u64 a b = some (.i .u64 r) := by
  unfold shG
  rw [if_neg (by omega)]
  exact ⟨_, rfl⟩
theorem or_some (a b : Int) : ∃ r, intG .or .u64 a b = some (.i .u64 r) := ⟨_, rfl⟩
def getOut (s : List UInt8) (acc : Int) (i : Nat) : List GV := match vlen (10 - i) (s.drop i) with
  | none => [.i .i64 1, .s s]
  | some k => if vbad (i + k) (s.getD (i + k - 1) 0).toNat ≠ 0 then [.i .i64 0, .i .u64 0, .i .i64 0, .i .i64 (vbad (i + k) (s.getD (i + k - 1) 0).toNat)]
    else [.i .i64 0, .i .u64 (acc + ((128 ^ i * vval ((s.drop i).take k) : Nat) : Int)), .i .i64 ((i + k : Nat) : Int), .i .i64 0]
theorem getLoop (s : List UInt8) (hs : s.length ≤ 140737488351232) : ∀ (m i : Nat) (acc : Int), i + m = min s.length 10 → (i ≤ 9 → 0 ≤ acc ∧ acc < ((128 ^ i : Nat) : Int)) →
    TT.lim 29 [.s s, .i .u64 acc, .i .i64 ((min s.length 10 : Nat) : Int), .i .i64 i] = some (getOut s acc i)
  | 0, i, acc, hi, ha => by
    have h : ¬ ((i : Int) < ((min s.length 10 : Nat) : Int)) := by omega
    have hv : vlen (10 - i) (s.drop i) = none := by
      rcases Nat.lt_or_ge i 10 with h1 | h1
      · have : s.drop i = [] := List.drop_eq_nil_of_le (by omega)
        rw [this]
        obtain ⟨j, hj⟩ : ∃ j, 10 - i = j + 1 := ⟨10 - i - 1, by omega⟩
        rw [hj]; rfl
      · have : 10 - i = 0 := by omega
        rw [this]; unfold vlen; rfl
    unfold getOut
    rw [hv]
    generalize ((min s.length 10 : Nat) : Int) = M at *
    refine tree_lim rfl rfl ?_
    simp [h]
  | m + 1, i, acc, hi, ha => by
    have hlt : i < s.length := by omega
    have h9 : i ≤ 9 := by omega
    have h : ((i : Int) < ((min s.length 10 : Nat) : Int)) := by omega
    obtain ⟨a1, a2⟩ := ha h9
    obtain ⟨n, rfl⟩ : ∃ n : Nat, acc = n := ⟨acc.toNat, by omega⟩
    have hb := (s[i]).toNat_lt
    have k7 := and127_8 (s[i]).toNat (by omega)
    have w8 := wrapu64 (n := (((s[i]).toNat % 128 : Nat) : Int)) (by omega) (by omega)
    have wi := wrap64 (n := 7 * (i : Int)) (by omega) (by omega)
    have wj := wrap64 (n := (i : Int) + 1) (by omega) (by omega)
    have hd : s.drop i = s[i] :: s.drop (i + 1) := List.drop_eq_getElem_cons hlt
    obtain ⟨j, hj⟩ : ∃ j, 10 - i = j + 1 := ⟨10 - i - 1, by omega⟩
    have hj' : 10 - (i + 1) = j := by omega
    have e7 : (7 * (i : Int)) = ((7 * i : Nat) : Int) := by omega
    have hgd : s.getD i 0 = s[i] := by simp [List.getD, hlt]
    by_cases hc : 128 ≤ (s[i]).toNat
    · -- another one follows
      have hc' : ((128 : Int) ≤ ((s[i]).toNat : Int)) := by omega
      have step : ∃ V : Int, (i + 1 ≤ 9 → 0 ≤ V ∧ V < ((128 ^ (i + 1) : Nat) : Int) ∧ V = n + (((s[i]).toNat % 128 * 128 ^ i : Nat) : Int)) ∧ (∃ S, shG .shl .u64 ((((s[i]).toNat % 128 : Nat)) : Int) (7 * (i : Int)) = some (.i .u64 S) ∧ intG .or .u64 (n : Int) S = some (.i .u64 V)) := by
        rcases Nat.lt_or_ge i 9 with h1 | h1
        · have k1 := shl7 ((s[i]).toNat % 128) i (by omega) (by omega) (by omega)
          have hp : (s[i]).toNat % 128 * 128 ^ i ≤ 127 * 128 ^ i := Nat.mul_le_mul_right _ (by omega)
          have hpp : 128 ^ (i + 1) = 128 * 128 ^ i := by rw [Nat.pow_succ, Nat.mul_comm]
          have hq : (128 : Nat) ^ i ≤ 128 ^ 8 := Nat.pow_le_pow_right (by omega) (by omega)
          have k2 := orI n ((s[i]).toNat % 128) (7 * i) (by rw [← p128]; omega) (by rw [← p128]; omega)
          rw [← p128] at k2
          refine ⟨_, fun _ => ⟨by omega, ?_, rfl⟩, _, by rw [e7]; exact k1, by rw [k2]; simp⟩
          rw [hpp]; omega
        · obtain ⟨S, hS⟩ := shl_some ((((s[i]).toNat % 128 : Nat)) : Int) (7 * (i : Int)) (by omega)
          obtain ⟨V, hV⟩ := or_some (n : Int) S
          exact ⟨V, fun h => by omega, S, hS, hV⟩
      obtain ⟨V, hV, S, hS, hO⟩ := step
      have ih : TT.lim 29 [.s s, .i .u64 V, .i .i64 ((min s.length 10 : Nat) : Int), .i .i64 ((i : Int) + 1)] = _ := getLoop s hs m (i + 1) V (by omega) (fun h => ⟨(hV h).1, (hV h).2.1⟩)
      have hout : getOut s n i = getOut s V (i + 1) := by
        unfold getOut
        rw [hd, hj, hj']
        have hv : vlen (j + 1) (s[i] :: s.drop (i + 1)) = (vlen j (s.drop (i + 1))).map (· + 1) := by
          show (if (s[i]).toNat < 128 then _ else _) = _
          rw [if_neg (by omega)]
        rw [hv]
        cases hx : vlen j (s.drop (i + 1)) with
        | none => rfl
        | some k =>
          obtain ⟨q1, q2, _, _⟩ := vlen_some hx
          have hV' := hV (by omega)
          have e1 : i + (k + 1) = i + 1 + k := by omega
          simp only [Option.map_some, e1]
          split
          · rfl
          · have e2 : (n : Int) + ((128 ^ i * vval ((s[i] :: s.drop (i + 1)).take (k + 1)) : Nat) : Int) = V + ((128 ^ (i + 1) * vval ((s.drop (i + 1)).take k) : Nat) : Int) := by
              rw [hV'.2.2, List.take_succ_cons]
              have : 128 ^ i * vval (s[i] :: (s.drop (i + 1)).take k) = (s[i]).toNat % 128 * 128 ^ i + 128 ^ (i + 1) * vval ((s.drop (i + 1)).take k) := by
                show 128 ^ i * ((s[i]).toNat % 128 + 128 * vval _) = _
                rw [Nat.mul_add, Nat.pow_succ, Nat.mul_assoc, Nat.mul_comm (128 ^ i) ((s[i]).toNat % 128)]
              rw [this]; omega
            rw [e2]
      rw [hout]
      generalize getOut s V (i + 1) = O at *
      generalize ((min s.length 10 : Nat) : Int) = M at *
      have em : (((s[i]).toNat % 128 : Nat) : Int) = ((s[i]).toNat : Int) % 128 := by omega
      rw [em] at k7 w8 hS
      refine tree_lim rfl rfl ?_
      simp [h, hlt, hc', k7, w8, wi, wj, hS, hO, ih]
    · -- the last one
      have hc' : ¬ ((128 : Int) ≤ ((s[i]).toNat : Int)) := by omega
      have hv : vlen (j + 1) (s[i] :: s.drop (i + 1)) = some 1 := by
        show (if (s[i]).toNat < 128 then _ else _) = _
        rw [if_pos (by omega)]
      have hout : getOut s n i = if vbad (i + 1) (s[i]).toNat ≠ 0 then [.i .i64 0, .i .u64 0, .i .i64 0, .i .i64 (vbad (i + 1) (s[i]).toNat)] else [.i .i64 0, .i .u64 ((n + (s[i]).toNat * 128 ^ i : Nat) : Int), .i .i64 ((i : Int) + 1), .i .i64 0] := by
        unfold getOut
        rw [hd, hj, hv]
        have e1 : i + 1 - 1 = i := by omega
        have e2 : 128 ^ i * vval ((s[i] :: s.drop (i + 1)).take 1) = (s[i]).toNat * 128 ^ i := by
          simp only [List.take_succ_cons, List.take_zero, vval]
          rw [Nat.mod_eq_of_lt (by omega), Nat.mul_comm]; simp
        simp only [e1, hgd, e2]
        congr 1
      rw [hout]
      have step : ∃ S V, shG .shl .u64 ((((s[i]).toNat % 128 : Nat)) : Int) (7 * (i : Int)) = some (.i .u64 S) ∧ intG .or .u64 (n : Int) S = some (.i .u64 V) ∧ (vbad (i + 1) (s[i]).toNat = 0 → V = ((n + (s[i]).toNat * 128 ^ i : Nat) : Int)) := by
        by_cases hbad : i = 9 ∧ 1 < (s[i]).toNat
        · obtain ⟨S, hS⟩ := shl_some ((((s[i]).toNat % 128 : Nat)) : Int) (7 * (i : Int)) (by omega)
          obtain ⟨V, hV⟩ := or_some (n : Int) S
          refine ⟨S, V, hS, hV, fun h => ?_⟩
          unfold vbad at h
          rw [if_pos (by omega)] at h
          cases h
        · have k1 := shl7 ((s[i]).toNat % 128) i (by omega) (by omega) (by omega)
          have em : (s[i]).toNat % 128 = (s[i]).toNat := Nat.mod_eq_of_lt (by omega)
          rw [em] at k1
          have hp : (s[i]).toNat * 128 ^ i ≤ 127 * 128 ^ i := Nat.mul_le_mul_right _ (by omega)
          have hb64 : n + (s[i]).toNat * 128 ^ i < 18446744073709551616 := by
            rcases Nat.lt_or_ge i 9 with h1 | h1
            · have hq : (128 : Nat) ^ i ≤ 128 ^ 8 := Nat.pow_le_pow_right (by omega) (by omega)
              omega
            · have hi9 : i = 9 := by omega
              have h1 : (s[i]).toNat ≤ 1 := by omega
              have hq : (128 : Nat) ^ i = 128 ^ 9 := by rw [hi9]
              have hp2 : (s[i]).toNat * 128 ^ i ≤ 1 * 128 ^ i := Nat.mul_le_mul_right _ h1
              omega
          have k2 := orI n (s[i]).toNat (7 * i) (by rw [← p128]; omega) (by rw [← p128]; omega)
          rw [← p128] at k2
          exact ⟨_, _, by rw [e7, em]; exact k1, k2, fun _ => rfl⟩
      obtain ⟨S, V, hS, hO, hV⟩ := step
      generalize ((n + (s[i]).toNat * 128 ^ i : Nat) : Int) = R at *
      generalize ((min s.length 10 : Nat) : Int) = M at *
      have bd : vbad (i + 1) (s[i]).toNat = if (i : Int) = 9 ∧ (1 : Int) < ((s[i]).toNat : Int) then 3 else if (0 : Int) < (i : Int) ∧ ((s[i]).toNat : Int) = 0 then 2 else 0 := by
        unfold vbad
        congr 1
        · apply propext; omega
        · congr 1
          apply propext; omega
      rw [bd] at hV ⊢
      have em : (((s[i]).toNat % 128 : Nat) : Int) = ((s[i]).toNat : Int) % 128 := by omega
      rw [em] at k7 w8 hS
      refine tree_lim rfl rfl ?_
      rcases (Classical.em ((i : Int) = 9)).imp eq_true eq_false with q1 | q1 <;> rcases (Classical.em ((1 : Int) < ((s[i]).toNat : Int))).imp eq_true eq_false with q2 | q2 <;>
        rcases (Classical.em ((0 : Int) < (i : Int))).imp eq_true eq_false with q3 | q3 <;> rcases (Classical.em (((s[i]).toNat : Int) = 0)).imp eq_true eq_false with q4 | q4
      all_goals
        have q3n : (0 < i) = ((0 : Int) < (i : Int)) := propext (by omega)
        have q4n : ((s[i]).toNat = 0) = (((s[i]).toNat : Int) = 0) := propext (by omega)
        rw [q3] at q3n
        rw [q4] at q4n
        simp only [q1, q2, q3, q4, and_self, and_true, and_false, false_and, true_and, if_true, if_false] at hV ⊢
        first
        | (have hV := hV trivial; subst hV)
        | skip
        simp [h, hlt, hc', k7, w8, wi, wj, hS, hO, q1, q2, q3, q4, q3n, q4n]
theorem getP (s : List UInt8) (hs : s.length ≤ 140737488351232) : TT.lim 28 [.s s] = some [.i .u64 ((vget s).1 : Nat), .i .i64 ((vget s).2.1 : Nat), .i .i64 (vget s).2.2] := by
  have k : TT.lim 29 [.s s, .i .u64 0, .i .i64 ((min s.length 10 : Nat) : Int), .i .i64 0] = _ := getLoop s hs (min s.length 10) 0 0 (by omega) (by simp)
  have hm : (if (10 : Int) < (s.length : Int) then (10 : Int) else (s.length : Int)) = ((min s.length 10 : Nat) : Int) := by split <;> omega
  unfold getOut at k
  rw [List.drop_zero, Nat.sub_zero] at k
  unfold vget
  generalize ((min s.length 10 : Nat) : Int) = M at *
  refine fn_lim rfl rfl ?_ rfl
  cases hv : vlen 10 s with
  | none =>
    rw [hv] at k
    by_cases h10 : 10 ≤ s.length
    · have h1 : (10 : Int) ≤ s.length := by omega
      simp [hm, k, h10, h1]
    · have h1 : ¬ (10 : Int) ≤ s.length := by omega
      simp [hm, k, h10, h1]
  | some j =>
    rw [hv] at k
    simp only [Nat.zero_add, Nat.pow_zero, Nat.one_mul, Int.zero_add] at k
    by_cases hb : vbad j (s.getD (j - 1) 0).toNat = 0
    · simp only [hb, ne_eq, not_true_eq_false, if_false] at k ⊢
      simp [hm, k]
    · simp only [hb, ne_eq, not_false_eq_true, if_true] at k ⊢
      simp [hm, k]
theorem u8nat {n : Nat} (h : n < 256) : (UInt8.ofNat n).toNat = n := UInt8.toNat_ofNat_of_lt' h
def vtop (n : Nat) : Nat := if n < 128 then n else vtop (n / 128)
termination_by n
theorem vtop_lt {n : Nat} (h : n < 128) : vtop n = n := by rw [vtop, if_pos h]
theorem vtop_ge {n : Nat} (h : ¬ n < 128) : vtop n = vtop (n / 128) := by rw [vtop, if_neg h]
theorem vsize_lt {n : Nat} (h : n < 128) : vsize n = 1 := by unfold vsize; rw [vput_lt h]; rfl
theorem vtop_facts : ∀ n : Nat, vtop n < 128 ∧ (0 < n → 0 < vtop n) ∧ vtop n * 128 ^ (vsize n - 1) ≤ n := by
  intro n
  induction n using Nat.strongRecOn with
  | _ n ih =>
    by_cases h : n < 128
    · rw [vtop_lt h, vsize_lt h]; simp; omega
    · obtain ⟨h1, h2, h3⟩ := ih (n / 128) (by omega)
      rw [vtop_ge h, vsize_ge h]
      refine ⟨h1, fun _ => h2 (by omega), ?_⟩
      have hp := vsize_pos (n / 128)
      obtain ⟨j, hj⟩ : ∃ j, vsize (n / 128) = j + 1 := ⟨vsize (n / 128) - 1, by omega⟩
      rw [hj] at h3 ⊢
      simp only [Nat.add_sub_cancel] at h3 ⊢
      have : vtop (n / 128) * 128 ^ (j + 1) = vtop (n / 128) * 128 ^ j * 128 := by rw [Nat.pow_succ, Nat.mul_assoc]
      rw [this]; omega
theorem vput_get : ∀ (n : Nat) (x : List UInt8), (vput n ++ x).getD (vsize n - 1) 0 = UInt8.ofNat (vtop n) := by
  intro n
  induction n using Nat.strongRecOn with
  | _ n ih =>
    intro x
    by_cases h : n < 128
    · rw [vtop_lt h, vsize_lt h, vput_lt h]; rfl
    · have hp := vsize_pos (n / 128)
      obtain ⟨j, hj⟩ : ∃ j, vsize (n / 128) = j + 1 := ⟨vsize (n / 128) - 1, by omega⟩
      have := ih (n / 128) (by omega) x
      rw [vtop_ge h, vsize_ge h, vput_ge h, ← this, hj]
      simp
theorem vlen_put : ∀ (n k : Nat) (x : List UInt8), vsize n ≤ k → vlen k (vput n ++ x) = some (vsize n) := by
  intro n
  induction n using Nat.strongRecOn with
  | _ n ih =>
    intro k x hk
    have hp := vsize_pos n
    obtain ⟨j, rfl⟩ : ∃ j, k = j + 1 := ⟨k - 1, by omega⟩
    by_cases h : n < 128
    · rw [vsize_lt h, vput_lt h]
      show (if (UInt8.ofNat n).toNat < 128 then _ else _) = _
      rw [if_pos (by rw [u8nat (by omega)]; exact h)]
    · rw [vsize_ge h] at hk ⊢
      rw [vput_ge h]
      show (if (UInt8.ofNat (n % 128 + 128)).toNat < 128 then _ else (vlen j (vput (n / 128) ++ x)).map (· + 1)) = _
      rw [if_neg (by rw [u8nat (by omega)]; omega), ih (n / 128) (by omega) j x (by omega)]
      rfl
theorem vval_put : ∀ n : Nat, vval (vput n) = n := by
  intro n
  induction n using Nat.strongRecOn with
  | _ n ih =>
    by_cases h : n < 128
    · rw [vput_lt h]
      simp only [vval]
      rw [u8nat (by omega)]; omega
    · rw [vput_ge h]
      simp only [vval]
      rw [ih (n / 128) (by omega), u8nat (by omega)]; omega
theorem vget_put (n : Nat) (x : List UInt8) (hn : n < 18446744073709551616) : vget (vput n ++ x) = (n, (vput n).length, 0) := by
  have h1 := vlen_put n 10 x (vsize64 hn)
  obtain ⟨f1, f2, f3⟩ := vtop_facts n
  have hg := vput_get n x
  have hb : vbad (vsize n) (UInt8.ofNat (vtop n)).toNat = 0 := by
    rw [u8nat (by omega)]
    unfold vbad
    rw [if_neg, if_neg]
    · rintro ⟨h2, h3⟩
      by_cases h : n < 128
      · rw [vsize_lt h] at h2; omega
      · have := f2 (by omega); omega
    · rintro ⟨h2, h3⟩
      rw [h2] at f3
      have : 2 * 128 ^ 9 ≤ vtop n * 128 ^ 9 := Nat.mul_le_mul_right _ h3
      simp only [show 10 - 1 = 9 from rfl] at f3
      omega
  unfold vget
  rw [h1]
  simp only [hg, hb, ne_eq, not_true_eq_false, if_false]
  have : (vput n ++ x).take (vsize n) = vput n := by
    unfold vsize; simp
  rw [this, vval_put]
  rfl
theorem vval_snoc (a : List UInt8) (b : UInt8) : vval (a ++ [b]) = vval a + 128 ^ a.length * (b.toNat % 128) := by
  induction a with
  | nil => simp [vval]
  | cons c a ih =>
    simp only [List.cons_append, vval, ih, List.length_cons, Nat.pow_succ, Nat.mul_add, Nat.add_assoc]
    rw [Nat.mul_comm (128 ^ a.length) 128, Nat.mul_assoc]
/-- Bytes that are a number's writing. -/
theorem put_vval : ∀ (j k : Nat) (s : List UInt8), vlen j s = some k → (1 < k → (s.getD (k - 1) 0) ≠ 0) → vput (vval (s.take k)) = s.take k ∧ (1 < k ∨ s.getD (k - 1) 0 ≠ 0 → vval (s.take k) ≠ 0)
  | 0, k, s, h, _ => by simp [vlen] at h
  | j + 1, k, [], h, _ => by simp [vlen] at h
  | j + 1, k, b :: r, h, hz => by
    unfold vlen at h
    split at h
    · next hb =>
      cases h
      simp only [List.take_succ_cons, List.take_zero, vval, Nat.mul_zero, Nat.add_zero]
      rw [Nat.mod_eq_of_lt hb]
      refine ⟨by rw [vput_lt hb]; simp, fun hh => ?_⟩
      rcases hh with hh | hh
      · omega
      · intro e
        apply hh
        simp only [Nat.sub_self, List.getD_cons_zero]
        exact UInt8.toNat_inj.1 (by simpa using e)
    · next hb =>
      obtain ⟨i, hi, rfl⟩ := Option.map_eq_some_iff.1 h
      obtain ⟨q1, q2, q3, q4⟩ := vlen_some hi
      obtain ⟨l, rfl⟩ : ∃ l, i = l + 1 := ⟨i - 1, by omega⟩
      have hz' : r.getD l 0 ≠ 0 := by have := hz (by omega); simpa using this
      obtain ⟨e1, e2⟩ := put_vval j (l + 1) r hi (fun _ => by simpa using hz')
      have e2 := e2 (.inr (by simpa using hz'))
      have hb8 := b.toNat_lt
      rw [List.take_succ_cons]
      simp only [vval]
      refine ⟨?_, fun _ => by omega⟩
      rw [vput_ge (by omega)]
      have a1 : (b.toNat % 128 + 128 * vval (r.take (l + 1))) % 128 + 128 = b.toNat := by omega
      have a2 : (b.toNat % 128 + 128 * vval (r.take (l + 1))) / 128 = vval (r.take (l + 1)) := by omega
      rw [a1, a2, e1]; simp
structure VOk (s : List UInt8) (n k : Nat) : Prop where
  pos : 1 ≤ k
  ten : k ≤ 10
  len : k ≤ s.length
  lt : n < 18446744073709551616
  put : vput n = s.take k
theorem vget_ok {s : List UInt8} (h : (vget s).2.2 = 0) : VOk s (vget s).1 (vget s).2.1 := by
  unfold vget at h ⊢
  cases hv : vlen 10 s with
  | none =>
    rw [hv] at h
    simp only at h
    split at h <;> cases h
  | some k =>
    rw [hv] at h
    simp only at h ⊢
    obtain ⟨v1, v2, v3, v4⟩ := vlen_some hv
    by_cases hb : vbad k (s.getD (k - 1) 0).toNat = 0
    · simp only [hb, ne_eq, not_true_eq_false, if_false]
      have hz : 1 < k → s.getD (k - 1) 0 ≠ 0 := by
        intro h1 h2
        unfold vbad at hb
        rw [h2] at hb
        split at hb
        · cases hb
        · rw [if_pos ⟨h1, rfl⟩] at hb; cases hb
      refine ⟨v1, v2, v3, ?_, (put_vval 10 k s hv hz).1⟩
      have e : s.take k = s.take (k - 1) ++ [s.getD (k - 1) 0] := by
        obtain ⟨j, rfl⟩ : ∃ j, k = j + 1 := ⟨k - 1, by omega⟩
        have : j < s.length := by omega
        simp [List.getD, this]
      have h2 := vval_lt (s.take (k - 1))
      rw [e, vval_snoc, List.length_take, Nat.min_eq_left (by omega)]
      rw [List.length_take, Nat.min_eq_left (by omega)] at h2
      rcases Nat.lt_or_ge k 10 with h3 | h3
      · have hq : (128 : Nat) ^ (k - 1) ≤ 128 ^ 8 := Nat.pow_le_pow_right (by omega) (by omega)
        have hq2 : 128 ^ (k - 1) * ((s.getD (k - 1) 0).toNat % 128) ≤ 128 ^ (k - 1) * 127 := Nat.mul_le_mul_left _ (by omega)
        omega
      · have hK10 : k = 10 := by omega
        have hb1 : (s.getD (k - 1) 0).toNat ≤ 1 := by
          unfold vbad at hb
          split at hb
          · cases hb
          · next h => omega
        have hq : (128 : Nat) ^ (k - 1) = 128 ^ 9 := by rw [hK10]
        have hq2 : 128 ^ (k - 1) * ((s.getD (k - 1) 0).toNat % 128) ≤ 128 ^ (k - 1) * 1 := Nat.mul_le_mul_left _ (by omega)
        omega
    · simp only [hb, ne_eq, not_false_eq_true, if_true] at h
theorem vget_err {s : List UInt8} (h : (vget s).2.2 ≠ 0) : (vget s).1 = 0 ∧ (vget s).2.1 = 0 := by
  unfold vget at h ⊢
  cases hv : vlen 10 s with
  | none => exact ⟨rfl, rfl⟩
  | some k =>
    rw [hv] at h
    simp only at h ⊢
    by_cases hb : vbad k (s.getD (k - 1) 0).toNat = 0
    · simp only [hb, ne_eq, not_true_eq_false, if_false] at h
    · simp only [hb, ne_eq, not_false_eq_true, if_true]
      exact ⟨trivial, trivial⟩
/-- Taken of a cursor. -/
theorem vnextP (t : List UInt8) (at' : Nat) (h : at' ≤ t.length) (ht : t.length ≤ 140737488351232) :
    TT.lim 27 [.s t, .i .i64 at'] = some [.i .i64 0, .i .u64 ((vget (t.drop at')).1 : Nat), .i .i64 (vget (t.drop at')).2.2, .s t, .i .i64 ((at' + (vget (t.drop at')).2.1 : Nat) : Int)] := by
  have k := getP (t.drop at') (by rw [List.length_drop]; omega)
  have hd : (t.take t.length).drop at' = t.drop at' := by rw [List.take_length]
  have h1 : (at' : Int) ≤ t.length := by omega
  refine tree_lim rfl rfl ?_
  by_cases he : (vget (t.drop at')).2.2 = 0
  · have hv := vget_ok he
    have hl := hv.len
    have h10 := hv.ten
    rw [List.length_drop] at hl
    generalize (vget (t.drop at')).1 = n at *
    generalize (vget (t.drop at')).2.1 = j at *
    generalize (vget (t.drop at')).2.2 = e at *
    have w1 := wrapu64 (n := (j : Int)) (by omega) (by omega)
    have w2 := wrap64 (n := (t.length : Int) - (at' : Int)) (by omega) (by omega)
    have w3 := wrapu64 (n := (t.length : Int) - (at' : Int)) (by omega) (by omega)
    have w4 := wrap64 (n := (j : Int)) (by omega) (by omega)
    have w5 := wrap64 (n := (at' : Int) + (j : Int)) (by omega) (by omega)
    have c1 : ¬ ((t.length : Int) - (at' : Int) < (j : Int)) := by omega
    have c2 : (at' : Int) ≤ (at' : Int) + (j : Int) ∧ (at' : Int) + (j : Int) ≤ t.length := by omega
    subst he
    simp [hd, h1, k, w1, w2, w3, w4, w5, c1, c2]
  · obtain ⟨e1, e2⟩ := vget_err he
    rw [e1, e2] at k ⊢
    generalize (vget (t.drop at')).2.2 = e at *
    simp [hd, h1, k, he]
def pfail (e : Int) : List UInt8 × Nat × Int := ([], 0, e)
/-- The text that stands next, how many bytes it took, and the code. -/
def pnext (s a0 : List UInt8) (first : Bool) : List UInt8 × Nat × Int :=
  let a := if first = true then [] else a0
  let v := vget s
  if v.2.2 ≠ 0 then pfail v.2.2 else
  if a.length < v.1 then pfail 23 else
  let v2 := vget (s.drop v.2.1)
  if v2.2.2 ≠ 0 then pfail v2.2.2 else
  if s.length - (v.2.1 + v2.2.1) < v2.1 then pfail 1 else
  let t := a.take v.1 ++ (s.drop (v.2.1 + v2.2.1)).take v2.1
  if first = false ∧ Op.bytesLess a t = false then pfail 7 else
  if v.1 < common a t then pfail 23 else (t, v.2.1 + v2.2.1 + v2.1, 0)
theorem le_of_less (a t : List UInt8) : (Op.bytesLess t a || t == a) = !(Op.bytesLess a t) := by
  rw [bytesLess_lt, bytesLess_lt, Bool.eq_iff_iff]
  simp only [Bool.or_eq_true, decide_eq_true_iff, beq_iff_eq, Bool.not_eq_true', decide_eq_false_iff_not]
  constructor
  · rintro (h | h) h2
    · exact List.lt_irrefl _ (List.lt_trans h h2)
    · subst h; exact List.lt_irrefl _ h2
  · intro h
    by_cases h1 : t < a
    · exact .inl h1
    · exact .inr (List.le_antisymm (List.not_lt.1 h) (List.not_lt.1 h1))
theorem common_ge : ∀ (k : Nat) (a x : List UInt8), k ≤ a.length → k ≤ common a (a.take k ++ x)
  | 0, a, x, h => by omega
  | k + 1, [], x, h => by simp at h
  | k + 1, b :: a, x, h => by
    rw [List.take_succ_cons, List.cons_append]
    unfold common
    rw [if_pos rfl]
    have := common_ge k a x (by simpa using h)
    omega
theorem pnextP (t a : List UInt8) (first : Bool) (at' : Nat) (h : at' ≤ t.length) (ht : t.length ≤ 100000000) (ha : a.length ≤ 100000000) :
    ∃ at2 : Nat, TT.lim 26 [.s t, .s a, .b first, .i .i64 at'] = some [.i .i64 0, .s (pnext (t.drop at') a first).1, .i .i64 (pnext (t.drop at') a first).2.2, .s t, .i .i64 at2] ∧
      ((pnext (t.drop at') a first).2.2 = 0 → at2 = at' + (pnext (t.drop at') a first).2.1) := by
  have k1 := vnextP t at' h (by omega)
  by_cases he : (vget (t.drop at')).2.2 = 0
  rotate_left
  · obtain ⟨e1, e2⟩ := vget_err he
    have hp : pnext (t.drop at') a first = pfail (vget (t.drop at')).2.2 := by unfold pnext; simp only; rw [if_pos he]
    rw [e1, e2] at k1
    rw [hp]
    clear e1 e2 hp
    generalize (vget (t.drop at')).2.2 = e at *
    refine ⟨at', tree_lim rfl rfl ?_, fun h => absurd h he⟩
    cases first <;> simp [k1, he, pfail]
  have hv := vget_ok he
  have hl := hv.len
  have h64 := hv.lt
  have h10 := hv.ten
  rw [List.length_drop] at hl
  have hpn : ∀ a' : List UInt8, a' = (if first = true then [] else a) → pnext (t.drop at') a first = (if a'.length < (vget (t.drop at')).1 then pfail 23 else
      if (vget (t.drop (at' + (vget (t.drop at')).2.1))).2.2 ≠ 0 then pfail (vget (t.drop (at' + (vget (t.drop at')).2.1))).2.2 else
      if (t.length - at') - ((vget (t.drop at')).2.1 + (vget (t.drop (at' + (vget (t.drop at')).2.1))).2.1) < (vget (t.drop (at' + (vget (t.drop at')).2.1))).1 then pfail 1 else
      if first = false ∧ Op.bytesLess a' (a'.take (vget (t.drop at')).1 ++ (t.drop (at' + ((vget (t.drop at')).2.1 + (vget (t.drop (at' + (vget (t.drop at')).2.1))).2.1))).take (vget (t.drop (at' + (vget (t.drop at')).2.1))).1) = false then pfail 7 else
      if (vget (t.drop at')).1 < common a' (a'.take (vget (t.drop at')).1 ++ (t.drop (at' + ((vget (t.drop at')).2.1 + (vget (t.drop (at' + (vget (t.drop at')).2.1))).2.1))).take (vget (t.drop (at' + (vget (t.drop at')).2.1))).1) then pfail 23 else
      (a'.take (vget (t.drop at')).1 ++ (t.drop (at' + ((vget (t.drop at')).2.1 + (vget (t.drop (at' + (vget (t.drop at')).2.1))).2.1))).take (vget (t.drop (at' + (vget (t.drop at')).2.1))).1, (vget (t.drop at')).2.1 + (vget (t.drop (at' + (vget (t.drop at')).2.1))).2.1 + (vget (t.drop (at' + (vget (t.drop at')).2.1))).1, 0)) := by
    intro a' ha'
    unfold pnext
    simp only [List.drop_drop, List.length_drop, ← ha', he, ne_eq, not_true_eq_false, if_false]
  rw [he] at k1
  have k2 := vnextP t (at' + (vget (t.drop at')).2.1) (by omega) (by omega)
  have hv2 := fun h => vget_ok (s := t.drop (at' + (vget (t.drop at')).2.1)) h
  have hv3 := fun h => vget_err (s := t.drop (at' + (vget (t.drop at')).2.1)) h
  generalize hv0 : vget (t.drop at') = v at *
  obtain ⟨n, i, e⟩ := v
  simp only at *
  generalize hv1 : vget (t.drop (at' + i)) = v2 at *
  obtain ⟨m, j, e2⟩ := v2
  simp only at *
  clear hv0 hv1 hv
  subst he
  simp only [Int.natCast_add] at k1 k2
  -- whichever is ahead
  cases first with
  | true =>
    have hp := hpn [] rfl
    rw [hp]
    clear hp hpn
    by_cases c1 : 0 < n
    · have c1' : (0 : Int) < n := by omega
      rw [if_pos (by simpa using c1)]
      refine ⟨at' + i, tree_lim rfl rfl ?_, fun h => by cases h⟩
      simp [k1, c1, c1', pfail]
    have c1' : ¬ (0 : Int) < n := by omega
    rw [if_neg (by simpa using c1)]
    by_cases c2 : e2 = 0
    rotate_left
    · obtain ⟨q1, q2⟩ := hv3 c2
      subst q1; subst q2
      rw [if_pos c2]
      refine ⟨at' + i, tree_lim rfl rfl ?_, fun h => absurd h c2⟩
      simp [k1, k2, c1, c1', c2, pfail]
    subst c2
    obtain ⟨q1, q2, q3, q4, _⟩ := hv2 rfl
    rw [List.length_drop] at q3
    rw [if_neg (by simp)]
    have w2 := wrap64 (n := (t.length : Int) - ((at' : Int) + (i : Int) + (j : Int))) (by omega) (by omega)
    have w3 := wrapu64 (n := (t.length : Int) - ((at' : Int) + (i : Int) + (j : Int))) (by omega) (by omega)
    by_cases c3 : t.length - at' - (i + j) < m
    · have c3' : (t.length : Int) - ((at' : Int) + (i : Int) + (j : Int)) < (m : Int) := by omega
      rw [if_pos c3]
      refine ⟨at' + i + j, tree_lim rfl rfl ?_, fun h => by cases h⟩
      simp [k1, k2, c1, c1', w2, w3, c3', pfail]
    have c3' : ¬ (t.length : Int) - ((at' : Int) + (i : Int) + (j : Int)) < (m : Int) := by omega
    rw [if_neg c3, if_neg (by simp)]
    have n0 : n = 0 := by omega
    subst n0
    have hc : common [] ([] ++ (t.drop (at' + (i + j))).take m) = 0 := common_nil _
    have w4 := wrap64 (n := (m : Int)) (by omega) (by omega)
    have w5 := wrap64 (n := (at' : Int) + (i : Int) + (j : Int) + (m : Int)) (by omega) (by omega)
    have w0 := wrap64 (n := (0 : Int)) (by omega) (by omega)
    have ts : ((t.take (at' + i + j + m)).drop (at' + i + j)) = (t.drop (at' + (i + j))).take m := by
      rw [← Nat.add_assoc, List.drop_take]
      congr 1; omega
    have kc := comP [] ((t.drop (at' + (i + j))).take m) (by simp) (by simp; omega)
    rw [common_nil] at kc
    have c4 : (at' : Int) + (i : Int) + (j : Int) ≤ (at' : Int) + (i : Int) + (j : Int) + (m : Int) ∧ (at' : Int) + (i : Int) + (j : Int) + (m : Int) ≤ t.length := by omega
    have c5 : (0 : Int) ≤ (at' : Int) + (i : Int) + (j : Int) := by omega
    have t1 : ((at' : Int) + (i : Int) + (j : Int) + (m : Int)).toNat = at' + i + j + m := by omega
    have t2 : ((at' : Int) + (i : Int) + (j : Int)).toNat = at' + i + j := by omega
    rw [List.take_nil, if_neg (by rw [hc]; omega)]
    have hl0 : (((t.drop (at' + (i + j))).take m).length : Int) ≤ 9223372036854775807 := by
      have : ((t.drop (at' + (i + j))).take m).length ≤ t.length := by rw [List.length_take, List.length_drop]; omega
      omega
    refine ⟨at' + i + j + m, tree_lim rfl rfl ?_, fun _ => by simp only; omega⟩
    rw [List.nil_append]
    generalize (t.drop (at' + (i + j))).take m = X at *
    simp [k1, k2, w0, w2, w3, w4, w5, c3', c4, c5, t1, t2, ts, kc, hl0]
  | false =>
    have hp := hpn a rfl
    rw [hp]
    clear hp hpn
    have wa := wrapu64 (n := (a.length : Int)) (by omega) (by omega)
    by_cases c1 : a.length < n
    · have c1' : (a.length : Int) < n := by omega
      rw [if_pos c1]
      refine ⟨at' + i, tree_lim rfl rfl ?_, fun h => by cases h⟩
      simp [k1, c1, c1', wa, pfail]
    have c1' : ¬ (a.length : Int) < n := by omega
    rw [if_neg c1]
    by_cases c2 : e2 = 0
    rotate_left
    · obtain ⟨q1, q2⟩ := hv3 c2
      subst q1; subst q2
      rw [if_pos c2]
      refine ⟨at' + i, tree_lim rfl rfl ?_, fun h => absurd h c2⟩
      simp [k1, k2, c1, c1', c2, wa, pfail]
    subst c2
    obtain ⟨q1, q2, q3, q4, _⟩ := hv2 rfl
    rw [List.length_drop] at q3
    rw [if_neg (by simp)]
    have w2 := wrap64 (n := (t.length : Int) - ((at' : Int) + (i : Int) + (j : Int))) (by omega) (by omega)
    have w3 := wrapu64 (n := (t.length : Int) - ((at' : Int) + (i : Int) + (j : Int))) (by omega) (by omega)
    by_cases c3 : t.length - at' - (i + j) < m
    · have c3' : (t.length : Int) - ((at' : Int) + (i : Int) + (j : Int)) < (m : Int) := by omega
      rw [if_pos c3]
      refine ⟨at' + i + j, tree_lim rfl rfl ?_, fun h => by cases h⟩
      simp [k1, k2, c1, c1', w2, w3, c3', wa, pfail]
    have c3' : ¬ (t.length : Int) - ((at' : Int) + (i : Int) + (j : Int)) < (m : Int) := by omega
    rw [if_neg c3]
    have w4 := wrap64 (n := (m : Int)) (by omega) (by omega)
    have w5 := wrap64 (n := (at' : Int) + (i : Int) + (j : Int) + (m : Int)) (by omega) (by omega)
    have wn := wrap64 (n := (n : Int)) (by omega) (by omega)
    have ts : ((t.take (at' + i + j + m)).drop (at' + i + j)) = (t.drop (at' + (i + j))).take m := by
      rw [← Nat.add_assoc, List.drop_take]
      congr 1; omega
    have hlx : ((t.drop (at' + (i + j))).take m).length ≤ t.length := by rw [List.length_take, List.length_drop]; omega
    have kc := comP a (a.take n ++ (t.drop (at' + (i + j))).take m) (by omega) (by rw [List.length_append, List.length_take]; omega)
    have c4 : (at' : Int) + (i : Int) + (j : Int) ≤ (at' : Int) + (i : Int) + (j : Int) + (m : Int) ∧ (at' : Int) + (i : Int) + (j : Int) + (m : Int) ≤ t.length := by omega
    have c5 : (0 : Int) ≤ (at' : Int) + (i : Int) + (j : Int) := by omega
    have c6 : (n : Int) ≤ a.length := by omega
    have t1 : ((at' : Int) + (i : Int) + (j : Int) + (m : Int)).toNat = at' + i + j + m := by omega
    have t2 : ((at' : Int) + (i : Int) + (j : Int)).toNat = at' + i + j := by omega
    have hlm : (min n a.length : Nat) = n := by omega
    have hl0 : (n : Int) + (((t.drop (at' + (i + j))).take m).length : Int) ≤ 9223372036854775807 := by omega
    have hle := le_of_less a (a.take n ++ (t.drop (at' + (i + j))).take m)
    generalize (t.drop (at' + (i + j))).take m = X at *
    by_cases c7 : Op.bytesLess a (a.take n ++ X) = false
    · rw [if_pos ⟨rfl, c7⟩]
      rw [c7] at hle
      refine ⟨at' + i + j + m, tree_lim rfl rfl ?_, fun h => by cases h⟩
      have hle' : (Op.bytesLess (a.take n ++ X) a = true ∨ a.take n ++ X = a) = True := eq_true (by simpa using hle)
      simp [k1, k2, wa, wn, w2, w3, w4, w5, c1', c3', c4, c5, c6, t1, t2, ts, hl0, hlm, hle', pfail]
    · rw [if_neg (fun h => c7 h.2)]
      have c7 : Op.bytesLess a (a.take n ++ X) = true := by simpa using c7
      rw [c7] at hle
      have hle' : (Op.bytesLess (a.take n ++ X) a = true ∨ a.take n ++ X = a) = False := eq_false (by simpa using hle)
      by_cases c8 : n < common a (a.take n ++ X)
      · have c8' : (n : Int) < (common a (a.take n ++ X) : Int) := by omega
        rw [if_pos c8]
        refine ⟨at' + i + j + m, tree_lim rfl rfl ?_, fun h => by cases h⟩
        simp [k1, k2, wa, wn, w2, w3, w4, w5, c1', c3', c4, c5, c6, t1, t2, ts, hl0, hlm, hle', kc, c8', pfail]
      · have c8' : ¬ (n : Int) < (common a (a.take n ++ X) : Int) := by omega
        rw [if_neg c8]
        refine ⟨at' + i + j + m, tree_lim rfl rfl ?_, fun _ => by simp only; omega⟩
        simp [k1, k2, wa, wn, w2, w3, w4, w5, c1', c3', c4, c5, c6, t1, t2, ts, hl0, hlm, hle', kc, c8']
theorem pnext_ok {s a : List UInt8} {first : Bool} (h : (pnext s a first).2.2 = 0) : 2 ≤ (pnext s a first).2.1 ∧ (pnext s a first).2.1 ≤ s.length ∧ (pnext s a first).1.length ≤ (if first = true then 0 else a.length) + (pnext s a first).2.1 := by
  have hA : (if first = true then 0 else a.length) = (if first = true then [] else a).length := by cases first <;> rfl
  rw [hA]
  clear hA
  unfold pnext at h ⊢
  simp only at h ⊢
  generalize (if first = true then [] else a) = a' at h ⊢
  split at h
  · next c => exact absurd h c
  next c0 =>
  rw [if_neg c0]
  split at h
  · cases h
  next c1 =>
  rw [if_neg c1]
  split at h
  · next c => exact absurd h c
  next c2 =>
  rw [if_neg c2]
  split at h
  · cases h
  next c3 =>
  rw [if_neg c3]
  split at h
  · cases h
  next c4 =>
  rw [if_neg c4]
  split at h
  · cases h
  next c5 =>
  rw [if_neg c5]
  have v1 := vget_ok (s := s) (by simpa using c0)
  have v2 := vget_ok (s := s.drop (vget s).2.1) (by simpa using c2)
  have p1 := v1.pos
  have p2 := v2.pos
  have l1 := v1.len
  have l2 := v2.len
  rw [List.length_drop] at l2
  refine ⟨by simp only; omega, by simp only; omega, ?_⟩
  simp only [List.length_append, List.length_take, List.length_drop]
  omega
theorem oneF_len (a s : List UInt8) (hs : s.length ≤ 100000000) : (oneF a s).length ≤ 20 + s.length := by
  have hl := common_le a s
  have l1 := vput_len (n := common a s) (by omega)
  have l2 := vput_len (n := s.length - common a s) (by omega)
  unfold oneF
  simp only [List.length_append, List.length_drop]
  omega
/-- A text that stands next: the text, how many bytes it took, the code. -/
def tnext (s : List UInt8) : List UInt8 × Nat × Int :=
  if (vget s).2.2 ≠ 0 then ([], 0, (vget s).2.2) else
  if s.length - (vget s).2.1 < (vget s).1 then ([], 0, 1) else
  ((s.drop (vget s).2.1).take (vget s).1, (vget s).2.1 + (vget s).1, 0)
theorem tnext_ok {s : List UInt8} (h : (tnext s).2.2 = 0) : 1 ≤ (tnext s).2.1 ∧ (tnext s).2.1 ≤ s.length ∧ (tnext s).1.length ≤ s.length := by
  unfold tnext at h ⊢
  by_cases h1 : (vget s).2.2 = 0
  rotate_left
  · rw [if_pos h1] at h
    exact absurd h h1
  rw [if_neg (fun e => e h1)] at h ⊢
  obtain ⟨v1, v2, v3, v4, v5⟩ := vget_ok h1
  by_cases h2 : s.length - (vget s).2.1 < (vget s).1
  · rw [if_pos h2] at h; cases h
  rw [if_neg h2]
  simp only [List.length_take, List.length_drop]
  omega
theorem textP (t : List UInt8) (at' : Nat) (h : at' ≤ t.length) (ht : t.length ≤ 100000000) :
    ∃ at2 : Nat, TT.lim 90 [.s t, .i .i64 at'] = some [.i .i64 0, .s (tnext (t.drop at')).1, .i .i64 (tnext (t.drop at')).2.2, .s t, .i .i64 at2] ∧ ((tnext (t.drop at')).2.2 = 0 → at2 = at' + (tnext (t.drop at')).2.1) := by
  have k1 := vnextP t at' h (by omega)
  unfold tnext
  by_cases he : (vget (t.drop at')).2.2 = 0
  rotate_left
  · obtain ⟨e1, e2⟩ := vget_err he
    rw [e1, e2] at k1
    rw [if_pos he]
    generalize (vget (t.drop at')).2.2 = e at *
    refine ⟨at', tree_lim rfl rfl ?_, fun h => absurd h he⟩
    simp [k1, he]
  obtain ⟨v1, v2, v3, v4, _⟩ := vget_ok he
  rw [if_neg (fun e => e he)]
  rw [he] at k1
  rw [List.length_drop] at v3 ⊢
  rw [List.drop_drop]
  generalize (vget (t.drop at')).1 = n at *
  generalize (vget (t.drop at')).2.1 = i at *
  have w1 := wrap64 (n := (t.length : Int) - ((at' : Int) + (i : Int))) (by omega) (by omega)
  have w2 := wrapu64 (n := (t.length : Int) - ((at' : Int) + (i : Int))) (by omega) (by omega)
  simp only [Int.natCast_add] at k1
  by_cases c1 : t.length - at' - i < n
  · have c1' : (t.length : Int) - ((at' : Int) + (i : Int)) < (n : Int) := by omega
    rw [if_pos c1]
    refine ⟨at' + i, tree_lim rfl rfl ?_, fun h => by cases h⟩
    simp [k1, w1, w2, c1']
  · have c1' : ¬ (t.length : Int) - ((at' : Int) + (i : Int)) < (n : Int) := by omega
    rw [if_neg c1]
    have w3 := wrap64 (n := (n : Int)) (by omega) (by omega)
    have w4 := wrap64 (n := (at' : Int) + (i : Int) + (n : Int)) (by omega) (by omega)
    have ts : ((t.take (at' + i + n)).drop (at' + i)) = (t.drop (at' + i)).take n := by
      rw [List.drop_take]
      congr 1; omega
    have c2 : (at' : Int) + (i : Int) ≤ (at' : Int) + (i : Int) + (n : Int) ∧ (at' : Int) + (i : Int) + (n : Int) ≤ t.length := by omega
    have c3 : (0 : Int) ≤ (at' : Int) + (i : Int) := by omega
    have t1 : ((at' : Int) + (i : Int) + (n : Int)).toNat = at' + i + n := by omega
    have t2 : ((at' : Int) + (i : Int)).toNat = at' + i := by omega
    generalize (t.drop (at' + i)).take n = X at *
    refine ⟨at' + i + n, tree_lim rfl rfl ?_, fun _ => by simp only; omega⟩
    simp [k1, w1, w2, w3, w4, c1', c2, c3, t1, t2, ts]
/-- An entry that stands next. -/
def enext (s : List UInt8) : Ent × Nat × Int :=
  if (tnext s).2.2 ≠ 0 then (([], []), 0, (tnext s).2.2) else
  if (tnext (s.drop (tnext s).2.1)).2.2 ≠ 0 then (([], []), 0, (tnext (s.drop (tnext s).2.1)).2.2) else
  if entChk ((tnext s).1, (tnext (s.drop (tnext s).2.1)).1) ≠ 0 then (([], []), 0, entChk ((tnext s).1, (tnext (s.drop (tnext s).2.1)).1)) else
  (((tnext s).1, (tnext (s.drop (tnext s).2.1)).1), (tnext s).2.1 + (tnext (s.drop (tnext s).2.1)).2.1, 0)
theorem enext_ok {s : List UInt8} (h : (enext s).2.2 = 0) : 2 ≤ (enext s).2.1 ∧ (enext s).2.1 ≤ s.length ∧ entChk (enext s).1 = 0 ∧ (enext s).1.1.length ≤ s.length ∧ (enext s).1.2.length ≤ s.length ∧
    (tnext s).2.2 = 0 ∧ (tnext (s.drop (tnext s).2.1)).2.2 = 0 ∧ (enext s).1 = ((tnext s).1, (tnext (s.drop (tnext s).2.1)).1) ∧ (enext s).2.1 = (tnext s).2.1 + (tnext (s.drop (tnext s).2.1)).2.1 := by
  unfold enext at h ⊢
  by_cases h1 : (tnext s).2.2 = 0
  rotate_left
  · rw [if_pos h1] at h; exact absurd h h1
  rw [if_neg (fun e => e h1)] at h ⊢
  by_cases h2 : (tnext (s.drop (tnext s).2.1)).2.2 = 0
  rotate_left
  · rw [if_pos h2] at h; exact absurd h h2
  rw [if_neg (fun e => e h2)] at h ⊢
  by_cases h3 : entChk ((tnext s).1, (tnext (s.drop (tnext s).2.1)).1) = 0
  rotate_left
  · rw [if_pos h3] at h; exact absurd h h3
  rw [if_neg (fun e => e h3)]
  obtain ⟨a1, a2, a3⟩ := tnext_ok h1
  obtain ⟨b1, b2, b3⟩ := tnext_ok h2
  rw [List.length_drop] at b2 b3
  exact ⟨by simp only; omega, by simp only; omega, h3, a3, by simp only; omega, h1, h2, rfl, rfl⟩
theorem entNextP (t : List UInt8) (at' : Nat) (h : at' ≤ t.length) (ht : t.length ≤ 100000000) :
    ∃ at2 : Nat, TT.lim 89 [.s t, .i .i64 at'] = some [.i .i64 0, .s (enext (t.drop at')).1.1, .s (enext (t.drop at')).1.2, .i .i64 (enext (t.drop at')).2.2, .s t, .i .i64 at2] ∧ ((enext (t.drop at')).2.2 = 0 → at2 = at' + (enext (t.drop at')).2.1) := by
  obtain ⟨p, k1, e1⟩ := textP t at' h ht
  unfold enext
  by_cases h1 : (tnext (t.drop at')).2.2 = 0
  rotate_left
  · rw [if_pos h1]
    generalize tnext (t.drop at') = A at *
    refine ⟨p, tree_lim rfl rfl ?_, fun h => absurd h h1⟩
    simp [k1, h1]
  have e1 := e1 h1
  obtain ⟨a1, a2, a3⟩ := tnext_ok h1
  rw [List.length_drop] at a2 a3
  have hdd : (t.drop at').drop (tnext (t.drop at')).2.1 = t.drop p := by rw [List.drop_drop, e1]
  obtain ⟨q, k2, e2⟩ := textP t p (by omega) ht
  rw [if_neg (fun e => e h1), hdd]
  rw [h1] at k1
  by_cases h2 : (tnext (t.drop p)).2.2 = 0
  rotate_left
  · rw [if_pos h2]
    generalize tnext (t.drop at') = A at *
    generalize tnext (t.drop p) = B at *
    refine ⟨q, tree_lim rfl rfl ?_, fun h => absurd h h2⟩
    simp [k1, k2, h2]
  have e2 := e2 h2
  obtain ⟨b1, b2, b3⟩ := tnext_ok h2
  rw [List.length_drop] at b2 b3
  rw [if_neg (fun e => e h2)]
  rw [h2] at k2
  have kc := entcheck18 ((tnext (t.drop at')).1, (tnext (t.drop p)).1) (by simp only; omega) (by simp only; omega)
  have kc' : TT.lim 55 [.g [.s (tnext (t.drop at')).1, .s (tnext (t.drop p)).1]] = _ := kc
  generalize tnext (t.drop at') = A at *
  generalize tnext (t.drop p) = B at *
  by_cases h3 : entChk (A.1, B.1) = 0
  rotate_left
  · rw [if_pos h3]
    refine ⟨q, tree_lim rfl rfl ?_, fun h => absurd h h3⟩
    generalize entChk (A.1, B.1) = E at *
    simp [k1, k2, kc', h3]
  · rw [if_neg (fun e => e h3)]
    rw [h3] at kc'
    refine ⟨q, tree_lim rfl rfl ?_, fun _ => by simp only; omega⟩
    simp [k1, k2, kc']
def behO (p : Option Ent) (x : Ent) : Int := match p with
  | none => 0
  | some k => behE k.1 x.1
/-- Entries by rising keys: what is read, how many bytes it took, the code. -/
def dloop : Nat → Option Ent → List UInt8 → List Ent × Nat × Int
  | 0, _, _ => ([], 0, 0)
  | m + 1, p, s => if (enext s).2.2 ≠ 0 then ([], 0, (enext s).2.2) else
    if behO p (enext s).1 ≠ 0 then ([], 0, behO p (enext s).1) else
    if (dloop m (some (enext s).1) (s.drop (enext s).2.1)).2.2 ≠ 0 then ([], 0, (dloop m (some (enext s).1) (s.drop (enext s).2.1)).2.2) else
    ((enext s).1 :: (dloop m (some (enext s).1) (s.drop (enext s).2.1)).1, (enext s).2.1 + (dloop m (some (enext s).1) (s.drop (enext s).2.1)).2.1, 0)
theorem dloop_succ (m : Nat) (p : Option Ent) (s : List UInt8) : dloop (m + 1) p s = if (enext s).2.2 ≠ 0 then ([], 0, (enext s).2.2) else
    if behO p (enext s).1 ≠ 0 then ([], 0, behO p (enext s).1) else
    if (dloop m (some (enext s).1) (s.drop (enext s).2.1)).2.2 ≠ 0 then ([], 0, (dloop m (some (enext s).1) (s.drop (enext s).2.1)).2.2) else
    ((enext s).1 :: (dloop m (some (enext s).1) (s.drop (enext s).2.1)).1, (enext s).2.1 + (dloop m (some (enext s).1) (s.drop (enext s).2.1)).2.1, 0) := rfl
def outD (acc : List Ent) (t : List UInt8) (at2 : Nat) (r : List Ent × Nat × Int) : List GV := if r.2.2 ≠ 0 then [.i .i64 0, .i .i64 r.2.2, .s t, .i .i64 at2] else [.i .i64 1, .l ((acc ++ r.1).map ent), .s t, .i .i64 at2]
theorem dstepE (L : List GV) (n i at' at2 : Int) (t : List UInt8) (x : Ent) (e : Int) (h : i < n) (he : ¬ e = 0)
    (k : TT.lim 89 [.s t, .i .i64 at'] = some [.i .i64 0, .s x.1, .s x.2, .i .i64 e, .s t, .i .i64 at2]) :
    TT.lim 88 [.l L, .i .i64 n, .i .i64 i, .s t, .i .i64 at'] = some [.i .i64 0, .i .i64 e, .s t, .i .i64 at2] := by
  refine tree_lim rfl rfl ?_
  simp [h, k, he]
theorem dstep0 (L : List GV) (n at' at2 : Int) (t : List UInt8) (x : Ent) (R : List GV) (h : 0 < n) (hb : 2 * (L.length + 1) * 32 ≤ 281474976710656 ∧ L.length + 1 ≤ 281474976710656)
    (k : TT.lim 89 [.s t, .i .i64 at'] = some [.i .i64 0, .s x.1, .s x.2, .i .i64 0, .s t, .i .i64 at2])
    (ih : TT.lim 88 [.l (L ++ [ent x]), .i .i64 n, .i .i64 1, .s t, .i .i64 at2] = some R) :
    TT.lim 88 [.l L, .i .i64 n, .i .i64 0, .s t, .i .i64 at'] = some R := by
  have he : GV.g [.s x.1, .s x.2] = ent x := rfl
  have w1 := wrap64 (n := 1) (by omega) (by omega)
  refine tree_lim rfl rfl ?_
  simp [h, k, he, GV.elemOk, hb, w1, ih]
theorem dstepB (L : List GV) (n : Int) (i : Nat) (at' at2 : Int) (t : List UInt8) (p x : Ent) (h : (i : Int) + 1 < n) (hi : i + 1 ≤ 100000000) (hl : L.length = i + 1) (hg : L[i]? = some (ent p)) (hb : ¬ behE p.1 x.1 = 0)
    (k : TT.lim 89 [.s t, .i .i64 at'] = some [.i .i64 0, .s x.1, .s x.2, .i .i64 0, .s t, .i .i64 at2]) :
    TT.lim 88 [.l L, .i .i64 n, .i .i64 ((i : Int) + 1), .s t, .i .i64 at'] = some [.i .i64 0, .i .i64 (behE p.1 x.1), .s t, .i .i64 at2] := by
  have h0 : (0 : Int) < (i : Int) + 1 := by omega
  have hii : (i : Int) < (i : Int) + 1 := by omega
  have w := wrap64 (n := (i : Int)) (by omega) (by omega)
  have hgi : L[i]'(by omega) = ent p := by have := hg; rw [List.getElem?_eq_getElem (by omega)] at this; exact Option.some.inj this
  unfold behE at hb ⊢
  by_cases e1 : x.1 = p.1
  · have e1' : (x.1 = p.1) = True := eq_true e1
    clear e1
    refine tree_lim rfl rfl ?_
    simp [h, k, h0, hii, w, hl, hg, hgi, e1']
  · by_cases e2 : Op.bytesLess x.1 p.1 = true
    · refine tree_lim rfl rfl ?_
      simp [h, k, h0, hii, w, hl, hg, hgi, e1, e2]
    · simp [e1, e2] at hb
theorem dstepN (L : List GV) (n : Int) (i : Nat) (at' at2 : Int) (t : List UInt8) (p x : Ent) (R : List GV) (h : (i : Int) + 1 < n) (hi : i + 1 ≤ 100000000) (hl : (i : Int) < L.length) (hl2 : L.length ≤ 100000000) (hg : L[i]? = some (ent p)) (hb : behE p.1 x.1 = 0)
    (k : TT.lim 89 [.s t, .i .i64 at'] = some [.i .i64 0, .s x.1, .s x.2, .i .i64 0, .s t, .i .i64 at2])
    (ih : TT.lim 88 [.l (L ++ [ent x]), .i .i64 n, .i .i64 ((i : Int) + 1 + 1), .s t, .i .i64 at2] = some R) :
    TT.lim 88 [.l L, .i .i64 n, .i .i64 ((i : Int) + 1), .s t, .i .i64 at'] = some R := by
  have h0 : (0 : Int) < (i : Int) + 1 := by omega
  have hii : (i : Int) < (i : Int) + 1 := by omega
  have w := wrap64 (n := (i : Int)) (by omega) (by omega)
  have w2 := wrap64 (n := (i : Int) + 1 + 1) (by omega) (by omega)
  have hl3 : i < L.length := by omega
  have hgi : L[i] = ent p := by have := hg; rw [List.getElem?_eq_getElem hl3] at this; exact Option.some.inj this
  have he : GV.g [.s x.1, .s x.2] = ent x := rfl
  have hbb : 2 * (L.length + 1) * 32 ≤ 281474976710656 ∧ L.length + 1 ≤ 281474976710656 := by omega
  unfold behE at hb
  have e1 : ¬ x.1 = p.1 := by intro e; rw [if_pos e] at hb; exact absurd hb (by decide)
  rw [if_neg e1] at hb
  have e2 : ¬ Op.bytesLess x.1 p.1 = true := by intro e; rw [if_pos e] at hb; exact absurd hb (by decide)
  have e2 : Op.bytesLess x.1 p.1 = false := by simpa using e2
  refine tree_lim rfl rfl ?_
  simp [h, k, h0, hii, w, w2, hl, hl3, hg, hgi, e1, e2, he, GV.elemOk, hbb, ih]
/-- What is ahead. -/
def lastIs (acc : List Ent) (p : Option Ent) : Prop := (acc = [] ∧ p = none) ∨ ∃ a x, acc = a ++ [x] ∧ p = some x
theorem dloopP (t : List UInt8) (ht : t.length ≤ 100000000) (n : Nat) (hn : n ≤ 1000) : ∀ (m : Nat) (acc : List Ent) (p : Option Ent) (at' : Nat), acc.length + m = n → lastIs acc p → at' ≤ t.length →
    ∃ at2 : Nat, TT.lim 88 [.l (acc.map ent), .i .i64 n, .i .i64 acc.length, .s t, .i .i64 at'] = some (outD acc t at2 (dloop m p (t.drop at'))) ∧ ((dloop m p (t.drop at')).2.2 = 0 → at2 = at' + (dloop m p (t.drop at')).2.1)
  | 0, acc, p, at', hi, hp, h => by
    have hlt : ¬ ((acc.length : Int) < (n : Int)) := by omega
    refine ⟨at', ?_, fun _ => by simp [dloop]⟩
    have hl : (acc.map ent).length = acc.length := by simp
    unfold dloop outD
    simp only [ne_eq, not_true_eq_false, if_false, List.append_nil]
    generalize acc.map ent = L at *
    refine tree_lim rfl rfl ?_
    simp [hlt]
  | m + 1, acc, p, at', hi, hp, h => by
    obtain ⟨at2, k, e2⟩ := entNextP t at' h ht
    rw [dloop_succ]
    by_cases h1 : (enext (t.drop at')).2.2 = 0
    rotate_left
    · rw [if_pos h1]
      refine ⟨at2, ?_, fun h => absurd h h1⟩
      have : outD acc t at2 ([], 0, (enext (t.drop at')).2.2) = [.i .i64 0, .i .i64 (enext (t.drop at')).2.2, .s t, .i .i64 at2] := by unfold outD; rw [if_pos h1]
      rw [this]
      exact dstepE _ _ _ _ _ _ _ _ (by omega) h1 k
    rw [if_neg (fun e => e h1)]
    rw [h1] at k
    have e2 := e2 h1
    obtain ⟨a1, a2, _⟩ := enext_ok h1
    rw [List.length_drop] at a2
    have hdd : (t.drop at').drop (enext (t.drop at')).2.1 = t.drop at2 := by rw [List.drop_drop, e2]
    rw [hdd]
    have hat : at2 ≤ t.length := by omega
    generalize hX : (enext (t.drop at')).1 = x at *
    obtain ⟨at3, ih, e3⟩ := dloopP t ht n hn m (acc ++ [x]) (some x) at2 (by rw [List.length_append, List.length_singleton]; omega) (.inr ⟨acc, x, rfl, rfl⟩) hat
    have hout : outD acc t at3 (if (dloop m (some x) (t.drop at2)).2.2 ≠ 0 then ([], 0, (dloop m (some x) (t.drop at2)).2.2) else (x :: (dloop m (some x) (t.drop at2)).1, (enext (t.drop at')).2.1 + (dloop m (some x) (t.drop at2)).2.1, 0)) = outD (acc ++ [x]) t at3 (dloop m (some x) (t.drop at2)) := by
      unfold outD
      by_cases hq : (dloop m (some x) (t.drop at2)).2.2 = 0
      · simp [hq]
      · simp [hq]
    have hfin : ((if (dloop m (some x) (t.drop at2)).2.2 ≠ 0 then (([] : List Ent), 0, (dloop m (some x) (t.drop at2)).2.2) else (x :: (dloop m (some x) (t.drop at2)).1, (enext (t.drop at')).2.1 + (dloop m (some x) (t.drop at2)).2.1, 0)).2.2 = 0 → at3 = at' + (if (dloop m (some x) (t.drop at2)).2.2 ≠ 0 then (([] : List Ent), 0, (dloop m (some x) (t.drop at2)).2.2) else (x :: (dloop m (some x) (t.drop at2)).1, (enext (t.drop at')).2.1 + (dloop m (some x) (t.drop at2)).2.1, 0)).2.1) := by
      by_cases hq : (dloop m (some x) (t.drop at2)).2.2 = 0
      · rw [if_neg (fun e => e hq)]
        intro _
        have := e3 hq
        simp only
        omega
      · rw [if_pos hq]
        intro h
        exact absurd h hq
    rw [List.map_append] at ih
    rcases hp with ⟨rfl, rfl⟩ | ⟨a, y, rfl, rfl⟩
    · have hb0 : behO none x = 0 := rfl
      rw [hb0, if_neg (by simp)]
      refine ⟨at3, ?_, hfin⟩
      rw [hout]
      exact dstep0 [] n at' at2 t x _ (by simp at hi; omega) (by simp) k ih
    · by_cases hb : behE y.1 x.1 = 0
      rotate_left
      · have hb' : behO (some y) x ≠ 0 := hb
        rw [if_pos hb']
        refine ⟨at2, ?_, fun h => absurd h hb⟩
        have : outD (a ++ [y]) t at2 ([], 0, behO (some y) x) = [.i .i64 0, .i .i64 (behE y.1 x.1), .s t, .i .i64 at2] := by unfold outD; rw [if_pos hb']; rfl
        rw [this]
        have hl : ((a ++ [y]).length : Int) = (a.length : Int) + 1 := by simp
        rw [hl]
        rw [List.length_append, List.length_singleton] at hi
        exact dstepB _ n a.length at' at2 t y x (by omega) (by omega) (by simp) (by simp) hb k
      · have hb' : ¬ behO (some y) x ≠ 0 := fun e => e hb
        rw [if_neg hb']
        refine ⟨at3, ?_, hfin⟩
        rw [hout]
        have hl : ((a ++ [y]).length : Int) = (a.length : Int) + 1 := by simp
        have hl2 : ((a ++ [y] ++ [x]).length : Int) = (a.length : Int) + 1 + 1 := by simp; omega
        rw [hl]
        rw [hl2] at ih
        rw [List.length_append, List.length_singleton] at hi
        exact dstepN _ n a.length at' at2 t y x _ (by omega) (by omega) (by simp; omega) (by simp; omega) (by simp) hb k ih
def dfail (e : Int) : List Ent × Nat × Int := ([], 0, e)
/-- A descriptor that stands next. -/
def dnext (s : List UInt8) : List Ent × Nat × Int :=
  if (vget s).2.2 ≠ 0 then dfail (vget s).2.2 else
  if (vget s).1 = 0 then dfail 12 else
  if 16 < (vget s).1 then dfail 13 else
  if (dloop (vget s).1 none (s.drop (vget s).2.1)).2.2 ≠ 0 then dfail (dloop (vget s).1 none (s.drop (vget s).2.1)).2.2 else
  ((dloop (vget s).1 none (s.drop (vget s).2.1)).1, (vget s).2.1 + (dloop (vget s).1 none (s.drop (vget s).2.1)).2.1, 0)
theorem dnextP (t : List UInt8) (at' : Nat) (h : at' ≤ t.length) (ht : t.length ≤ 100000000) :
    ∃ at2 : Nat, TT.lim 87 [.s t, .i .i64 at'] = some [.i .i64 0, .l ((dnext (t.drop at')).1.map ent), .i .i64 (dnext (t.drop at')).2.2, .s t, .i .i64 at2] ∧ ((dnext (t.drop at')).2.2 = 0 → at2 = at' + (dnext (t.drop at')).2.1) := by
  have k1 := vnextP t at' h (by omega)
  unfold dnext
  by_cases he : (vget (t.drop at')).2.2 = 0
  rotate_left
  · obtain ⟨e1, e2⟩ := vget_err he
    rw [e1, e2] at k1
    rw [if_pos he]
    generalize (vget (t.drop at')).2.2 = e at *
    refine ⟨at', tree_lim rfl rfl ?_, fun h => absurd h he⟩
    simp [k1, he, dfail]
  obtain ⟨v1, v2, v3, v4, _⟩ := vget_ok he
  rw [if_neg (fun e => e he)]
  rw [he] at k1
  rw [List.length_drop] at v3
  rw [List.drop_drop]
  by_cases h16 : 16 < (vget (t.drop at')).1
  · have h0 : ¬ (vget (t.drop at')).1 = 0 := by omega
    have h16' : (16 : Int) < ((vget (t.drop at')).1 : Nat) := by omega
    rw [if_neg h0, if_pos h16]
    generalize (vget (t.drop at')).1 = n at *
    generalize (vget (t.drop at')).2.1 = i at *
    refine ⟨at' + i, tree_lim rfl rfl ?_, fun h => by cases h⟩
    simp only [Int.natCast_add] at k1
    simp [k1, h0, h16, h16', dfail]
  obtain ⟨at2, k2, e2⟩ := dloopP t ht (vget (t.drop at')).1 (by omega) (vget (t.drop at')).1 [] none (at' + (vget (t.drop at')).2.1) (by simp) (.inl ⟨rfl, rfl⟩) (by omega)
  generalize (vget (t.drop at')).1 = n at *
  generalize (vget (t.drop at')).2.1 = i at *
  by_cases h0 : n = 0
  · rw [if_pos h0]
    have h0' : ((n : Int) = 0) = True := eq_true (by omega)
    refine ⟨at' + i, tree_lim rfl rfl ?_, fun h => by cases h⟩
    simp only [Int.natCast_add] at k1
    simp [k1, h0, h0', dfail]
  rw [if_neg h0, if_neg h16]
  have h16' : ¬ (16 : Int) < (n : Int) := by omega
  have w := wrap64 (n := (n : Int)) (by omega) (by omega)
  have hc : (0 : Int) ≤ (n : Int) ∧ 32 * (n : Int) ≤ 281474976710656 ∧ (n : Int) ≤ 1152921504606846976 := by omega
  have k2' : TT.lim 88 [.l [], .i .i64 n, .i .i64 0, .s t, .i .i64 ((at' : Int) + (i : Int))] = _ := k2
  generalize hdl : dloop n none (t.drop (at' + i)) = r at *
  refine ⟨at2, tree_lim rfl rfl ?_, fun h => ?_⟩
  · simp only [Int.natCast_add] at k1
    unfold outD at k2'
    by_cases hq : r.2.2 = 0
    · simp only [hq, ne_eq, not_true_eq_false, if_false, List.nil_append] at k2' ⊢
      simp [k1, h0, h16, h16', w, hc, k2', GV.elemOk]
    · simp only [hq, ne_eq, not_false_eq_true, if_true] at k2' ⊢
      simp [k1, h0, h16, h16', w, hc, k2', GV.elemOk, dfail]
  · by_cases hq : r.2.2 = 0
    · rw [if_neg (fun e => e hq)]
      have := e2 hq
      simp only
      omega
    · rw [if_pos hq] at h
      exact absurd h hq
/-- A whole text, as a descriptor. -/
def dparse (s : List UInt8) : List Ent × Int :=
  if (dnext s).2.2 ≠ 0 then ([], (dnext s).2.2) else if (dnext s).2.1 < s.length then ([], 10) else ((dnext s).1, 0)
theorem dloop_ok : ∀ (m : Nat) (p : Option Ent) (s : List UInt8), (dloop m p s).2.2 = 0 → (dloop m p s).2.1 ≤ s.length ∧ (dloop m p s).1.length = m ∧ ∀ x ∈ (dloop m p s).1, entChk x = 0 ∧ x.1.length ≤ s.length ∧ x.2.length ≤ s.length
  | 0, p, s, _ => by simp [dloop]
  | m + 1, p, s, h => by
    rw [dloop_succ] at h ⊢
    by_cases h1 : (enext s).2.2 = 0
    rotate_left
    · rw [if_pos h1] at h; exact absurd h h1
    rw [if_neg (fun e => e h1)] at h ⊢
    by_cases h2 : behO p (enext s).1 = 0
    rotate_left
    · rw [if_pos h2] at h; exact absurd h h2
    rw [if_neg (fun e => e h2)] at h ⊢
    by_cases h3 : (dloop m (some (enext s).1) (s.drop (enext s).2.1)).2.2 = 0
    rotate_left
    · rw [if_pos h3] at h; exact absurd h h3
    rw [if_neg (fun e => e h3)]
    obtain ⟨a1, a2, a3, a4, a5, _⟩ := enext_ok h1
    obtain ⟨b1, b2, b3⟩ := dloop_ok m (some (enext s).1) _ h3
    rw [List.length_drop] at b1
    refine ⟨by simp only; omega, by simp [b2], fun x hx => ?_⟩
    rcases List.mem_cons.1 hx with rfl | hx
    · exact ⟨a3, a4, a5⟩
    · obtain ⟨c1, c2, c3⟩ := b3 x hx
      rw [List.length_drop] at c2 c3
      exact ⟨c1, by omega, by omega⟩
theorem dnext_ok {s : List UInt8} (h : (dnext s).2.2 = 0) : (vget s).2.2 = 0 ∧ 0 < (vget s).1 ∧ (vget s).1 ≤ 16 ∧ (dloop (vget s).1 none (s.drop (vget s).2.1)).2.2 = 0 ∧ (dnext s).1 = (dloop (vget s).1 none (s.drop (vget s).2.1)).1 ∧
    (dnext s).2.1 = (vget s).2.1 + (dloop (vget s).1 none (s.drop (vget s).2.1)).2.1 ∧ (dnext s).2.1 ≤ s.length := by
  unfold dnext at h ⊢
  by_cases h1 : (vget s).2.2 = 0
  rotate_left
  · rw [if_pos h1] at h; exact absurd h h1
  rw [if_neg (fun e => e h1)] at h ⊢
  by_cases h2 : (vget s).1 = 0
  · rw [if_pos h2] at h; exact absurd h (by simp [dfail])
  rw [if_neg h2] at h ⊢
  by_cases h3 : 16 < (vget s).1
  · rw [if_pos h3] at h; exact absurd h (by simp [dfail])
  rw [if_neg h3] at h ⊢
  by_cases h4 : (dloop (vget s).1 none (s.drop (vget s).2.1)).2.2 = 0
  rotate_left
  · rw [if_pos h4] at h; exact absurd h h4
  rw [if_neg (fun e => e h4)]
  obtain ⟨v1, v2, v3, _, _⟩ := vget_ok h1
  obtain ⟨d1, _, _⟩ := dloop_ok _ _ _ h4
  rw [List.length_drop] at d1
  exact ⟨h1, by omega, by omega, h4, rfl, rfl, by simp only; omega⟩
theorem dparseP (s : List UInt8) (hs : s.length ≤ 100000000) : TT.lim 86 [.s s] = some [.l ((dparse s).1.map ent), .i .i64 (dparse s).2] := by
  obtain ⟨at2, k, e2⟩ := dnextP s 0 (by omega) hs
  rw [List.drop_zero, show ((0 : Nat) : Int) = 0 from rfl] at k
  rw [List.drop_zero] at e2
  unfold dparse
  by_cases h1 : (dnext s).2.2 = 0
  rotate_left
  · rw [if_pos h1]
    generalize dnext s = r at *
    refine fn_lim rfl rfl ?_ (by rfl)
    simp [k, h1]
  have e2 := e2 h1
  obtain ⟨_, _, _, _, _, _, a7⟩ := dnext_ok h1
  rw [if_neg (fun e => e h1)]
  rw [h1] at k
  rw [Nat.zero_add] at e2
  have w := wrap64 (n := (s.length : Int) - (at2 : Int)) (by omega) (by omega)
  rw [← e2] at a7 ⊢
  generalize dnext s = r at *
  by_cases h2 : at2 < s.length
  · rw [if_pos h2]
    refine fn_lim rfl rfl ?_ rfl
    simp [k, w, h2]
  · rw [if_neg h2]
    refine fn_lim rfl rfl ?_ rfl
    simp [k, w, h2]
def qfail (e : Int) : Row × Nat × Int := (([], 0), 0, e)
/-- The row of a key, whose number stands next. -/
def qnext (key s : List UInt8) : Row × Nat × Int :=
  if (dparse key).2 ≠ 0 then qfail (dparse key).2 else
  if (vget s).2.2 ≠ 0 then qfail (vget s).2.2 else
  if (vget s).1 = 0 then qfail 17 else (((dparse key).1, ((vget s).1 : Nat)), (vget s).2.1, 0)
theorem qnext_ok {key s : List UInt8} (h : (qnext key s).2.2 = 0) : (dparse key).2 = 0 ∧ (vget s).2.2 = 0 ∧ (vget s).1 ≠ 0 ∧ (qnext key s).1 = ((dparse key).1, (((vget s).1 : Nat) : Int)) ∧ (qnext key s).2.1 = (vget s).2.1 := by
  unfold qnext at h ⊢
  by_cases h1 : (dparse key).2 = 0
  rotate_left
  · rw [if_pos h1] at h; exact absurd h h1
  rw [if_neg (fun e => e h1)] at h ⊢
  by_cases h2 : (vget s).2.2 = 0
  rotate_left
  · rw [if_pos h2] at h; exact absurd h h2
  rw [if_neg (fun e => e h2)] at h ⊢
  by_cases h3 : (vget s).1 = 0
  · rw [if_pos h3] at h; exact absurd h (by simp [qfail])
  rw [if_neg h3]
  exact ⟨h1, h2, h3, rfl, rfl⟩
theorem rowP (key t : List UInt8) (at' : Nat) (h : at' ≤ t.length) (ht : t.length ≤ 100000000) (hk : key.length ≤ 100000000) :
    ∃ at2 : Nat, TT.lim 85 [.s key, .s t, .i .i64 at'] = some [.i .i64 0, .l ((qnext key (t.drop at')).1.1.map ent), .i .u64 (qnext key (t.drop at')).1.2, .i .i64 (qnext key (t.drop at')).2.2, .s t, .i .i64 at2] ∧
      ((qnext key (t.drop at')).2.2 = 0 → at2 = at' + (qnext key (t.drop at')).2.1) := by
  have k1 := dparseP key hk
  have k2 := vnextP t at' h (by omega)
  unfold qnext
  generalize dparse key = D at *
  by_cases h1 : D.2 = 0
  rotate_left
  · rw [if_pos h1]
    refine ⟨at', tree_lim rfl rfl ?_, fun h => absurd h h1⟩
    simp [k1, h1, qfail]
  rw [if_neg (fun e => e h1)]
  by_cases h2 : (vget (t.drop at')).2.2 = 0
  rotate_left
  · obtain ⟨e1, e2⟩ := vget_err h2
    rw [e1, e2] at k2
    rw [if_pos h2]
    generalize vget (t.drop at') = V at *
    refine ⟨at', tree_lim rfl rfl ?_, fun h => absurd h h2⟩
    simp [k1, k2, h1, h2, qfail]
  rw [if_neg (fun e => e h2)]
  rw [h2] at k2
  simp only [Int.natCast_add] at k2
  generalize vget (t.drop at') = V at *
  by_cases h3 : V.1 = 0
  · rw [if_pos h3]
    rw [h3] at k2
    refine ⟨at' + V.2.1, tree_lim rfl rfl ?_, fun h => by cases h⟩
    simp [k1, k2, h1, qfail]
  · rw [if_neg h3]
    refine ⟨at' + V.2.1, tree_lim rfl rfl ?_, fun _ => rfl⟩
    simp [k1, k2, h1, h3]
/-- Rows, one behind the other. -/
def ploop : Nat → List UInt8 → Bool → List UInt8 → List Row × Nat × Int
  | 0, _, _, _ => ([], 0, 0)
  | m + 1, a, first, s => if (pnext s a first).2.2 ≠ 0 then ([], 0, (pnext s a first).2.2) else
    if (qnext (pnext s a first).1 (s.drop (pnext s a first).2.1)).2.2 ≠ 0 then ([], 0, (qnext (pnext s a first).1 (s.drop (pnext s a first).2.1)).2.2) else
    if (ploop m (pnext s a first).1 false (s.drop ((pnext s a first).2.1 + (qnext (pnext s a first).1 (s.drop (pnext s a first).2.1)).2.1))).2.2 ≠ 0 then ([], 0, (ploop m (pnext s a first).1 false (s.drop ((pnext s a first).2.1 + (qnext (pnext s a first).1 (s.drop (pnext s a first).2.1)).2.1))).2.2) else
    ((qnext (pnext s a first).1 (s.drop (pnext s a first).2.1)).1 :: (ploop m (pnext s a first).1 false (s.drop ((pnext s a first).2.1 + (qnext (pnext s a first).1 (s.drop (pnext s a first).2.1)).2.1))).1,
      (pnext s a first).2.1 + (qnext (pnext s a first).1 (s.drop (pnext s a first).2.1)).2.1 + (ploop m (pnext s a first).1 false (s.drop ((pnext s a first).2.1 + (qnext (pnext s a first).1 (s.drop (pnext s a first).2.1)).2.1))).2.1, 0)
theorem ploop_succ (m : Nat) (a : List UInt8) (first : Bool) (s : List UInt8) : ploop (m + 1) a first s = if (pnext s a first).2.2 ≠ 0 then ([], 0, (pnext s a first).2.2) else
    if (qnext (pnext s a first).1 (s.drop (pnext s a first).2.1)).2.2 ≠ 0 then ([], 0, (qnext (pnext s a first).1 (s.drop (pnext s a first).2.1)).2.2) else
    if (ploop m (pnext s a first).1 false (s.drop ((pnext s a first).2.1 + (qnext (pnext s a first).1 (s.drop (pnext s a first).2.1)).2.1))).2.2 ≠ 0 then ([], 0, (ploop m (pnext s a first).1 false (s.drop ((pnext s a first).2.1 + (qnext (pnext s a first).1 (s.drop (pnext s a first).2.1)).2.1))).2.2) else
    ((qnext (pnext s a first).1 (s.drop (pnext s a first).2.1)).1 :: (ploop m (pnext s a first).1 false (s.drop ((pnext s a first).2.1 + (qnext (pnext s a first).1 (s.drop (pnext s a first).2.1)).2.1))).1,
      (pnext s a first).2.1 + (qnext (pnext s a first).1 (s.drop (pnext s a first).2.1)).2.1 + (ploop m (pnext s a first).1 false (s.drop ((pnext s a first).2.1 + (qnext (pnext s a first).1 (s.drop (pnext s a first).2.1)).2.1))).2.1, 0) := rfl
def outP (acc : List Row) (t : List UInt8) (at2 : Nat) (r : List Row × Nat × Int) : List GV := if r.2.2 ≠ 0 then [.i .i64 0, .i .i64 r.2.2, .s t, .i .i64 at2] else [.i .i64 1, .l ((acc ++ r.1).map row), .s t, .i .i64 at2]
theorem pstepE (L : List GV) (a t X : List UInt8) (n i at' at2 : Int) (first : Bool) (e : Int) (h : i < n) (hf : decide (i = 0) = first) (he : ¬ e = 0)
    (k : TT.lim 26 [.s t, .s a, .b first, .i .i64 at'] = some [.i .i64 0, .s X, .i .i64 e, .s t, .i .i64 at2]) :
    TT.lim 84 [.l L, .s a, .i .i64 n, .i .i64 i, .s t, .i .i64 at'] = some [.i .i64 0, .i .i64 e, .s t, .i .i64 at2] := by
  refine tree_lim rfl rfl ?_
  simp [h, hf, k, he]
theorem pstepQ (L : List GV) (a t X : List UInt8) (D : List GV) (N : Int) (n i at' at2 at3 : Int) (first : Bool) (e : Int) (h : i < n) (hf : decide (i = 0) = first) (he : ¬ e = 0)
    (k : TT.lim 26 [.s t, .s a, .b first, .i .i64 at'] = some [.i .i64 0, .s X, .i .i64 0, .s t, .i .i64 at2])
    (k2 : TT.lim 85 [.s X, .s t, .i .i64 at2] = some [.i .i64 0, .l D, .i .u64 N, .i .i64 e, .s t, .i .i64 at3]) :
    TT.lim 84 [.l L, .s a, .i .i64 n, .i .i64 i, .s t, .i .i64 at'] = some [.i .i64 0, .i .i64 e, .s t, .i .i64 at3] := by
  refine tree_lim rfl rfl ?_
  simp [h, hf, k, k2, he]
theorem pstepN (L : List GV) (a t X : List UInt8) (D : List GV) (N : Int) (n i at' at2 at3 : Int) (first : Bool) (R : List GV) (h : i < n) (hf : decide (i = 0) = first) (hw : IntKind.i64.wrap (i + 1) = i + 1) (hb : L.length ≤ 100000000)
    (k : TT.lim 26 [.s t, .s a, .b first, .i .i64 at'] = some [.i .i64 0, .s X, .i .i64 0, .s t, .i .i64 at2])
    (k2 : TT.lim 85 [.s X, .s t, .i .i64 at2] = some [.i .i64 0, .l D, .i .u64 N, .i .i64 0, .s t, .i .i64 at3])
    (ih : TT.lim 84 [.l (L ++ [.g [.l D, .i .u64 N]]), .s X, .i .i64 n, .i .i64 (i + 1), .s t, .i .i64 at3] = some R) :
    TT.lim 84 [.l L, .s a, .i .i64 n, .i .i64 i, .s t, .i .i64 at'] = some R := by
  have hbb : 2 * (L.length + 1) * 32 ≤ 281474976710656 ∧ L.length + 1 ≤ 281474976710656 := by omega
  refine tree_lim rfl rfl ?_
  simp [h, hf, k, k2, hw, GV.elemOk, hbb, ih]
theorem ploopP (t : List UInt8) (ht : t.length ≤ 100000000) (n : Nat) (hn : n ≤ 1000) : ∀ (m : Nat) (acc : List Row) (a : List UInt8) (at' : Nat), acc.length + m = n → at' ≤ t.length → a.length ≤ at' →
    ∃ at2 : Nat, TT.lim 84 [.l (acc.map row), .s a, .i .i64 n, .i .i64 acc.length, .s t, .i .i64 at'] = some (outP acc t at2 (ploop m a (decide ((acc.length : Int) = 0)) (t.drop at'))) ∧
      ((ploop m a (decide ((acc.length : Int) = 0)) (t.drop at')).2.2 = 0 → at2 = at' + (ploop m a (decide ((acc.length : Int) = 0)) (t.drop at')).2.1)
  | 0, acc, a, at', hi, h, ha => by
    have hlt : ¬ ((acc.length : Int) < (n : Int)) := by omega
    refine ⟨at', ?_, fun _ => by simp [ploop]⟩
    unfold ploop outP
    simp only [ne_eq, not_true_eq_false, if_false, List.append_nil]
    generalize acc.map row = L at *
    refine tree_lim rfl rfl ?_
    simp [hlt]
  | m + 1, acc, a, at', hi, h, ha => by
    obtain ⟨at2, k, e2⟩ := pnextP t a (decide ((acc.length : Int) = 0)) at' h ht (by omega)
    rw [ploop_succ]
    generalize hf : decide ((acc.length : Int) = 0) = first at *
    by_cases h1 : (pnext (t.drop at') a first).2.2 = 0
    rotate_left
    · rw [if_pos h1]
      refine ⟨at2, ?_, fun h => absurd h h1⟩
      have : outP acc t at2 ([], 0, (pnext (t.drop at') a first).2.2) = [.i .i64 0, .i .i64 (pnext (t.drop at') a first).2.2, .s t, .i .i64 at2] := by unfold outP; rw [if_pos h1]
      rw [this]
      exact pstepE _ _ _ _ _ _ _ _ _ _ (by omega) hf h1 k
    rw [if_neg (fun e => e h1)]
    rw [h1] at k
    have e2 := e2 h1
    obtain ⟨a1, a2, a3⟩ := pnext_ok h1
    rw [List.length_drop] at a2
    have hdd : ∀ j, (t.drop at').drop ((pnext (t.drop at') a first).2.1 + j) = t.drop (at2 + j) := by intro j; rw [List.drop_drop, e2, Nat.add_assoc]
    have hdd0 : (t.drop at').drop (pnext (t.drop at') a first).2.1 = t.drop at2 := by rw [List.drop_drop, e2]
    have hal : (pnext (t.drop at') a first).1.length ≤ at2 := by split at a3 <;> omega
    rw [hdd, hdd0]
    generalize (pnext (t.drop at') a first).1 = X at *
    generalize (pnext (t.drop at') a first).2.1 = j1 at *
    obtain ⟨at3, k2, e3⟩ := rowP X t at2 (by omega) ht (by omega)
    by_cases h2 : (qnext X (t.drop at2)).2.2 = 0
    rotate_left
    · rw [if_pos h2]
      refine ⟨at3, ?_, fun h => absurd h h2⟩
      have : outP acc t at3 ([], 0, (qnext X (t.drop at2)).2.2) = [.i .i64 0, .i .i64 (qnext X (t.drop at2)).2.2, .s t, .i .i64 at3] := by unfold outP; rw [if_pos h2]
      rw [this]
      exact pstepQ _ _ _ _ _ _ _ _ _ _ _ _ _ (by omega) hf h2 k k2
    rw [if_neg (fun e => e h2)]
    rw [h2] at k2
    have e3 := e3 h2
    obtain ⟨_, q2, _, _, q5⟩ := qnext_ok h2
    obtain ⟨v1, v2, v3, _, _⟩ := vget_ok q2
    rw [List.length_drop] at v3
    have e3' : at2 + (qnext X (t.drop at2)).2.1 = at3 := e3.symm
    rw [e3']
    have hrow : GV.g [.l ((qnext X (t.drop at2)).1.1.map ent), .i .u64 (qnext X (t.drop at2)).1.2] = row (qnext X (t.drop at2)).1 := rfl
    obtain ⟨at4, ih, e4⟩ := ploopP t ht n hn m (acc ++ [(qnext X (t.drop at2)).1]) X at3 (by rw [List.length_append, List.length_singleton]; omega) (by omega) (by omega)
    have hfalse : decide (((acc ++ [(qnext X (t.drop at2)).1]).length : Int) = 0) = false := by simp; omega
    have hl : ((acc ++ [(qnext X (t.drop at2)).1]).length : Int) = (acc.length : Int) + 1 := by simp
    rw [hfalse] at ih e4
    rw [hl, List.map_append] at ih
    generalize (qnext X (t.drop at2)).1 = Q at *
    generalize (qnext X (t.drop at2)).2.1 = j2 at *
    have hout : outP acc t at4 (if (ploop m X false (t.drop at3)).2.2 ≠ 0 then ([], 0, (ploop m X false (t.drop at3)).2.2) else (Q :: (ploop m X false (t.drop at3)).1, j1 + j2 + (ploop m X false (t.drop at3)).2.1, 0)) = outP (acc ++ [Q]) t at4 (ploop m X false (t.drop at3)) := by
      unfold outP
      by_cases hq : (ploop m X false (t.drop at3)).2.2 = 0
      · simp [hq]
      · simp [hq]
    refine ⟨at4, ?_, ?_⟩
    · rw [hout]
      exact pstepN _ _ _ _ _ _ _ _ _ _ _ _ _ (by omega) hf (wrap64 (by omega) (by omega)) (by simp; omega) k k2 (by rw [hrow]; exact ih)
    · by_cases hq : (ploop m X false (t.drop at3)).2.2 = 0
      · rw [if_neg (fun e => e hq)]
        intro _
        have := e4 hq
        simp only
        omega
      · rw [if_pos hq]
        intro h
        exact absurd h hq
def kfail (e : Int) : List Row × Nat × Int := ([], 0, e)
/-- A table that stands next. -/
def knext (s : List UInt8) : List Row × Nat × Int :=
  if (vget s).2.2 ≠ 0 then kfail (vget s).2.2 else
  if 256 < (vget s).1 then kfail 13 else
  if (ploop (vget s).1 [] true (s.drop (vget s).2.1)).2.2 ≠ 0 then kfail (ploop (vget s).1 [] true (s.drop (vget s).2.1)).2.2 else
  ((ploop (vget s).1 [] true (s.drop (vget s).2.1)).1, (vget s).2.1 + (ploop (vget s).1 [] true (s.drop (vget s).2.1)).2.1, 0)
theorem knextP (t : List UInt8) (at' : Nat) (h : at' ≤ t.length) (ht : t.length ≤ 100000000) :
    ∃ at2 : Nat, TT.lim 83 [.s t, .i .i64 at'] = some [.i .i64 0, .l ((knext (t.drop at')).1.map row), .i .i64 (knext (t.drop at')).2.2, .s t, .i .i64 at2] ∧ ((knext (t.drop at')).2.2 = 0 → at2 = at' + (knext (t.drop at')).2.1) := by
  have k1 := vnextP t at' h (by omega)
  unfold knext
  by_cases he : (vget (t.drop at')).2.2 = 0
  rotate_left
  · obtain ⟨e1, e2⟩ := vget_err he
    rw [e1, e2] at k1
    rw [if_pos he]
    generalize (vget (t.drop at')).2.2 = e at *
    refine ⟨at', tree_lim rfl rfl ?_, fun h => absurd h he⟩
    simp [k1, he, kfail]
  obtain ⟨v1, v2, v3, v4, _⟩ := vget_ok he
  rw [if_neg (fun e => e he)]
  rw [he] at k1
  rw [List.length_drop] at v3
  rw [List.drop_drop]
  by_cases h16 : 256 < (vget (t.drop at')).1
  · have h16' : (256 : Int) < ((vget (t.drop at')).1 : Nat) := by omega
    rw [if_pos h16]
    generalize (vget (t.drop at')).1 = n at *
    generalize (vget (t.drop at')).2.1 = i at *
    refine ⟨at' + i, tree_lim rfl rfl ?_, fun h => by cases h⟩
    simp only [Int.natCast_add] at k1
    simp [k1, h16, h16', kfail]
  obtain ⟨at2, k2, e2⟩ := ploopP t ht (vget (t.drop at')).1 (by omega) (vget (t.drop at')).1 [] [] (at' + (vget (t.drop at')).2.1) (by simp) (by omega) (by simp)
  generalize (vget (t.drop at')).1 = n at *
  generalize (vget (t.drop at')).2.1 = i at *
  rw [if_neg h16]
  have h16' : ¬ (256 : Int) < (n : Int) := by omega
  have w := wrap64 (n := (n : Int)) (by omega) (by omega)
  have hc : (0 : Int) ≤ (n : Int) ∧ 32 * (n : Int) ≤ 281474976710656 ∧ (n : Int) ≤ 1152921504606846976 := by omega
  rw [show decide ((([] : List Row).length : Int) = 0) = true from rfl] at k2 e2
  have k2' : TT.lim 84 [.l [], .s [], .i .i64 n, .i .i64 0, .s t, .i .i64 ((at' : Int) + (i : Int))] = _ := k2
  generalize ploop n [] true (t.drop (at' + i)) = r at *
  refine ⟨at2, tree_lim rfl rfl ?_, fun h => ?_⟩
  · simp only [Int.natCast_add] at k1
    unfold outP at k2'
    by_cases hq : r.2.2 = 0
    · simp only [hq, ne_eq, not_true_eq_false, if_false, List.nil_append] at k2' ⊢
      simp [k1, h16, h16', w, hc, k2', GV.elemOk]
    · simp only [hq, ne_eq, not_false_eq_true, if_true] at k2' ⊢
      simp [k1, h16, h16', w, hc, k2', GV.elemOk, kfail]
  · by_cases hq : r.2.2 = 0
    · rw [if_neg (fun e => e hq)]
      have := e2 hq
      simp only
      omega
    · rw [if_pos hq] at h
      exact absurd h hq
/-- A whole text, as a table. -/
def tparse (s : List UInt8) : List Row × Int :=
  if (knext s).2.2 ≠ 0 then ([], (knext s).2.2) else if (knext s).2.1 < s.length then ([], 10) else ((knext s).1, 0)
theorem ploop_ok : ∀ (m : Nat) (a : List UInt8) (first : Bool) (s : List UInt8), (ploop m a first s).2.2 = 0 → (ploop m a first s).2.1 ≤ s.length ∧ (ploop m a first s).1.length = m
  | 0, a, first, s, _ => by simp [ploop]
  | m + 1, a, first, s, h => by
    rw [ploop_succ] at h ⊢
    by_cases h1 : (pnext s a first).2.2 = 0
    rotate_left
    · rw [if_pos h1] at h; exact absurd h h1
    rw [if_neg (fun e => e h1)] at h ⊢
    by_cases h2 : (qnext (pnext s a first).1 (s.drop (pnext s a first).2.1)).2.2 = 0
    rotate_left
    · rw [if_pos h2] at h; exact absurd h h2
    rw [if_neg (fun e => e h2)] at h ⊢
    by_cases h3 : (ploop m (pnext s a first).1 false (s.drop ((pnext s a first).2.1 + (qnext (pnext s a first).1 (s.drop (pnext s a first).2.1)).2.1))).2.2 = 0
    rotate_left
    · rw [if_pos h3] at h; exact absurd h h3
    rw [if_neg (fun e => e h3)]
    obtain ⟨a1, a2, _⟩ := pnext_ok h1
    obtain ⟨_, q2, _, _, q5⟩ := qnext_ok h2
    obtain ⟨v1, v2, v3, _, _⟩ := vget_ok q2
    rw [List.length_drop] at v3
    obtain ⟨b1, b2⟩ := ploop_ok m _ _ _ h3
    rw [List.length_drop] at b1
    exact ⟨by simp only; omega, by simp [b2]⟩
theorem knext_ok {s : List UInt8} (h : (knext s).2.2 = 0) : (vget s).2.2 = 0 ∧ (vget s).1 ≤ 256 ∧ (ploop (vget s).1 [] true (s.drop (vget s).2.1)).2.2 = 0 ∧ (knext s).1 = (ploop (vget s).1 [] true (s.drop (vget s).2.1)).1 ∧
    (knext s).2.1 = (vget s).2.1 + (ploop (vget s).1 [] true (s.drop (vget s).2.1)).2.1 ∧ (knext s).2.1 ≤ s.length := by
  unfold knext at h ⊢
  by_cases h1 : (vget s).2.2 = 0
  rotate_left
  · rw [if_pos h1] at h; exact absurd h h1
  rw [if_neg (fun e => e h1)] at h ⊢
  by_cases h3 : 256 < (vget s).1
  · rw [if_pos h3] at h; exact absurd h (by simp [kfail])
  rw [if_neg h3] at h ⊢
  by_cases h4 : (ploop (vget s).1 [] true (s.drop (vget s).2.1)).2.2 = 0
  rotate_left
  · rw [if_pos h4] at h; exact absurd h h4
  rw [if_neg (fun e => e h4)]
  obtain ⟨v1, v2, v3, _, _⟩ := vget_ok h1
  obtain ⟨d1, _⟩ := ploop_ok _ _ _ _ h4
  rw [List.length_drop] at d1
  exact ⟨h1, by omega, h4, rfl, rfl, by simp only; omega⟩
theorem tparseP (s : List UInt8) (hs : s.length ≤ 100000000) : TT.lim 82 [.s s] = some [.l ((tparse s).1.map row), .i .i64 (tparse s).2] := by
  obtain ⟨at2, k, e2⟩ := knextP s 0 (by omega) hs
  rw [List.drop_zero, show ((0 : Nat) : Int) = 0 from rfl] at k
  rw [List.drop_zero] at e2
  unfold tparse
  by_cases h1 : (knext s).2.2 = 0
  rotate_left
  · rw [if_pos h1]
    generalize knext s = r at *
    refine fn_lim rfl rfl ?_ (by rfl)
    simp [k, h1]
  have e2 := e2 h1
  obtain ⟨_, _, _, _, _, a7⟩ := knext_ok h1
  rw [if_neg (fun e => e h1)]
  rw [h1] at k
  rw [Nat.zero_add] at e2
  have w := wrap64 (n := (s.length : Int) - (at2 : Int)) (by omega) (by omega)
  rw [← e2] at a7 ⊢
  generalize knext s = r at *
  by_cases h2 : at2 < s.length
  · rw [if_pos h2]
    refine fn_lim rfl rfl ?_ rfl
    simp [k, w, h2]
  · rw [if_neg h2]
    refine fn_lim rfl rfl ?_ rfl
    simp [k, w, h2]
def rowsPut : List UInt8 → List Row → List UInt8
  | _, [] => []
  | a, r :: t => oneF a (keyF r.1) ++ (vput r.2.toNat ++ rowsPut (keyF r.1) t)
/-- A table, as it is written. -/
def packF (t : List Row) : List UInt8 := vput t.length ++ rowsPut [] t
def putK (t : List Row) : List UInt8 × Int := if checkT t ≠ 0 then ([], checkT t) else (packF t, 0)
theorem rowsPut_len : ∀ (t : List Row) (a : List UInt8), (∀ r ∈ t, few12 r.1 = true ∧ 0 ≤ r.2 ∧ r.2 < 18446744073709551616) → (rowsPut a t).length ≤ 40000 * t.length
  | [], a, _ => by simp [rowsPut]
  | r :: t, a, h => by
    obtain ⟨h1, h2, h3⟩ := h r (by simp)
    have hk := key_len h1
    have ho := oneF_len a (keyF r.1) (by omega)
    have hv := vput_len (n := r.2.toNat) (by omega)
    have ih := rowsPut_len t (keyF r.1) fun q hq => h q (by simp [hq])
    simp only [rowsPut, List.length_append, List.length_cons]
    omega
theorem kputStep (L : List GV) (n i : Int) (D : List Ent) (N : Int) (a k O V acc : List UInt8) (R : List GV) (j : Nat) (hi : i = j) (h : i < n) (hg : L[j]? = some (row (D, N))) (hw : IntKind.i64.wrap (i + 1) = i + 1) (k1 : TT.lim 46 [.l (D.map ent)] = some [.s k]) (k2 : TT.lim 5 [.s a, .s k] = some [.s O])
    (k3 : TT.lim 8 [.i .u64 N] = some [.s V]) (hb1 : 2 * (acc.length + O.length) ≤ 281474976710656 ∧ acc.length + O.length ≤ 281474976710656) (hb2 : 2 * (acc.length + (O.length + V.length)) ≤ 281474976710656 ∧ acc.length + (O.length + V.length) ≤ 281474976710656)
    (ih : TT.lim 59 [.s k, .l L, .i .i64 n, .i .i64 (i + 1), .l (byteGs acc ++ (byteGs O ++ byteGs V))] = some R) :
    TT.lim 59 [.s a, .l L, .i .i64 n, .i .i64 i, .l (byteGs acc)] = some R := by
  subst hi
  have ok1 := byteGs_ok O
  have ok2 := byteGs_ok V
  refine tree_lim rfl rfl ?_
  simp [-List.all_eq_true, h, hg, hw, k1, k2, k3, ok1, ok2, hb1, hb2, Nat.add_assoc, ih]
theorem kputLoop (l : List Row) (hl : l.length ≤ 1000) (hf : ∀ r ∈ l, few12 r.1 = true ∧ 0 ≤ r.2 ∧ r.2 < 18446744073709551616) : ∀ (m i : Nat) (a acc : List UInt8), i + m = l.length → a.length ≤ 100000 → acc.length ≤ 10 + 40000 * i →
    TT.lim 59 [.s a, .l (l.map row), .i .i64 l.length, .i .i64 i, .l (byteGs acc)] = some [.i .i64 0, .l (byteGs (acc ++ rowsPut a (l.drop i)))]
  | 0, i, a, acc, hi, ha, hacc => by
    have hd : l.drop i = [] := List.drop_eq_nil_of_le (by omega)
    have h : ¬ ((i : Int) < l.length) := by omega
    rw [hd]
    refine tree_lim rfl rfl ?_
    simp [h, rowsPut]
  | m + 1, i, a, acc, hi, ha, hacc => by
    have hlt : i < l.length := by omega
    obtain ⟨h1, h2, h3⟩ := hf l[i] (List.getElem_mem hlt)
    have hk := key_len h1
    have k1 := key6 l[i].1 h1
    have k2 := oneP a (keyF l[i].1) (by omega) (by omega)
    have ho := oneF_len a (keyF l[i].1) (by omega)
    have k3 := put7 l[i].2.toNat (by omega)
    rw [show ((l[i].2.toNat : Nat) : Int) = l[i].2 by omega] at k3
    have hv := vput_len (n := l[i].2.toNat) (by omega)
    have ih := kputLoop l hl hf m (i + 1) (keyF l[i].1) (acc ++ (oneF a (keyF l[i].1) ++ vput l[i].2.toNat)) (by omega) (by omega) (by simp only [List.length_append]; omega)
    have he : acc ++ rowsPut a (l.drop i) = acc ++ (oneF a (keyF l[i].1) ++ vput l[i].2.toNat) ++ rowsPut (keyF l[i].1) (l.drop (i + 1)) := by
      rw [List.drop_eq_getElem_cons hlt]; simp [rowsPut]
    rw [he]
    rw [byteGs_append acc, byteGs_append] at ih
    rw [show ((i + 1 : Nat) : Int) = (i : Int) + 1 by omega] at ih
    exact kputStep _ _ _ l[i].1 l[i].2 a _ _ _ acc _ i rfl (by omega) (by simp [hlt]) (wrap64 (by omega) (by omega)) k1 k2 k3 (by omega) (by omega) ih
theorem kputP (t : List Row) (ht : Rows t) (hf : Few t) : TT.lim 49 [.l (t.map row)] = some [.s (putK t).1, .i .i64 (putK t).2] := by
  have k1 := check37 t ht hf
  unfold putK
  by_cases hc : checkT t = 0
  rotate_left
  · rw [if_pos hc]
    refine fn_lim rfl rfl ?_ (by rfl)
    simp [k1, hc]
  rw [if_neg (fun e => e hc)]
  rw [hc] at k1
  have h256 := ((checkT_iff t).1 hc).1
  have hff : ∀ r ∈ t, few12 r.1 = true ∧ 0 ≤ r.2 ∧ r.2 < 18446744073709551616 := fun r hr => ⟨hf r hr, (ht.2 r hr).2.1, (ht.2 r hr).2.2⟩
  have k2 := put7 t.length (by omega)
  have l2 := vput_len (n := t.length) (by omega)
  have k3 := kputLoop t (by omega) hff t.length 0 [] (vput t.length) (by omega) (by simp) (by omega)
  rw [List.drop_zero, show ((0 : Nat) : Int) = 0 from rfl] at k3
  have hlen := rowsPut_len t [] hff
  have w := wrapu64 (n := (t.length : Int)) (by omega) (by omega)
  have ok := byteGs_ok (vput t.length)
  have hb : 2 * (vput t.length).length ≤ 281474976710656 ∧ (vput t.length).length ≤ 281474976710656 := by omega
  have hbg := bytesG_byteGs (packF t)
  have hpl : (byteGs (packF t)).length ≤ 281474976710656 := by
    rw [byteGs_length]; unfold packF; rw [List.length_append]; omega
  have hk3 : TT.lim 59 [.s [], .l (t.map row), .i .i64 t.length, .i .i64 0, .l (byteGs (vput t.length))] = some [.i .i64 0, .l (byteGs (packF t))] := k3
  generalize byteGs (packF t) = PG at *
  generalize packF t = P at *
  generalize hVG : byteGs (vput t.length) = VG at *
  have hvl : VG.length = (vput t.length).length := by rw [← hVG, byteGs_length]
  rw [← hvl] at hb
  have hlm : (t.map row).length = t.length := by simp
  generalize t.map row = L at *
  refine fn_lim rfl rfl ?_ rfl
  simp [-List.all_eq_true, k1, hlm, w, k2, hVG, ok, hb, hk3, hbg, hpl]
theorem entChk_len {x : Ent} (h : entChk x = 0) : x.1.length ≤ 64 ∧ x.2.length ≤ 256 := by
  have hu : ∀ (s : List UInt8) (lo hi : Int), utfChk s lo hi = 0 → (s.length : Int) ≤ hi := by
    intro s lo hi h
    unfold utfChk at h
    split at h
    · cases h
    · split at h
      · cases h
      · omega
  unfold entChk at h
  by_cases h1 : utfChk x.1 1 64 = 0
  · rw [if_neg (fun e => e h1)] at h
    have a := hu _ _ _ h1
    have b := hu _ _ _ h
    omega
  · rw [if_pos h1] at h; exact absurd h h1
theorem tnext_put {s : List UInt8} (h : (tnext s).2.2 = 0) : vput (tnext s).1.length ++ (tnext s).1 = s.take (tnext s).2.1 := by
  unfold tnext at h ⊢
  by_cases h1 : (vget s).2.2 = 0
  rotate_left
  · rw [if_pos h1] at h; exact absurd h h1
  rw [if_neg (fun e => e h1)] at h ⊢
  obtain ⟨v1, v2, v3, v4, v5⟩ := vget_ok h1
  by_cases h2 : s.length - (vget s).2.1 < (vget s).1
  · rw [if_pos h2] at h; cases h
  rw [if_neg h2]
  simp only [List.length_take, List.length_drop]
  rw [Nat.min_eq_left (by omega), v5, List.take_add]
theorem enext_put {s : List UInt8} (h : (enext s).2.2 = 0) : entPut (enext s).1 = s.take (enext s).2.1 := by
  obtain ⟨_, _, _, _, _, h1, h2, h3, h4⟩ := enext_ok h
  rw [h3, h4]
  unfold entPut
  simp only
  have p1 := tnext_put h1
  have p2 := tnext_put h2
  rw [p1, List.append_assoc, p2, List.take_add]
theorem dloop_put : ∀ (m : Nat) (p : Option Ent) (s : List UInt8), (dloop m p s).2.2 = 0 → (dloop m p s).1.flatMap entPut = s.take (dloop m p s).2.1 ∧ chkL (p.map (·.1)) (dloop m p s).1 = 0
  | 0, p, s, _ => by simp [dloop, chkL]
  | m + 1, p, s, h => by
    rw [dloop_succ] at h ⊢
    by_cases h1 : (enext s).2.2 = 0
    rotate_left
    · rw [if_pos h1] at h; exact absurd h h1
    rw [if_neg (fun e => e h1)] at h ⊢
    by_cases h2 : behO p (enext s).1 = 0
    rotate_left
    · rw [if_pos h2] at h; exact absurd h h2
    rw [if_neg (fun e => e h2)] at h ⊢
    by_cases h3 : (dloop m (some (enext s).1) (s.drop (enext s).2.1)).2.2 = 0
    rotate_left
    · rw [if_pos h3] at h; exact absurd h h3
    rw [if_neg (fun e => e h3)]
    obtain ⟨b1, b2⟩ := dloop_put m (some (enext s).1) _ h3
    obtain ⟨_, _, a3, _⟩ := enext_ok h1
    have p1 := enext_put h1
    refine ⟨by simp only [List.flatMap_cons, b1, p1, List.take_add], ?_⟩
    unfold chkL
    rw [if_neg (fun e => e a3)]
    cases p with
    | none => exact b2
    | some k =>
      have h2' : behE k.1 (enext s).1.1 = 0 := h2
      unfold behE at h2'
      simp only [Option.map_some]
      by_cases c1 : (enext s).1.1 = k.1
      · rw [if_pos c1] at h2'; exact absurd h2' (by decide)
      rw [if_neg c1] at h2' ⊢
      by_cases c2 : Op.bytesLess (enext s).1.1 k.1 = true
      · rw [if_pos c2] at h2'; exact absurd h2' (by decide)
      rw [if_neg c2]
      exact b2
structure DOk (d : List Ent) (key : List UInt8) : Prop where
  chk : descrChk d = 0
  few : few12 d = true
  ents : Ents d
  put : keyF d = key
theorem dnext_put {s : List UInt8} (h : (dnext s).2.2 = 0) (hs : s.length ≤ 100000000) : DOk (dnext s).1 (s.take (dnext s).2.1) := by
  obtain ⟨a1, a2, a3, a4, a5, a6, a7⟩ := dnext_ok h
  obtain ⟨b1, b2, b3⟩ := dloop_ok _ _ _ a4
  obtain ⟨c1, c2⟩ := dloop_put _ _ _ a4
  obtain ⟨v1, v2, v3, v4, v5⟩ := vget_ok a1
  rw [a5, a6]
  refine ⟨?_, ?_, ⟨by omega, fun x hx => ?_⟩, ?_⟩
  · unfold descrChk
    rw [if_neg (by omega), if_neg (by omega)]
    exact c2
  · unfold few12
    rw [Bool.and_eq_true, decide_eq_true_iff, List.all_eq_true]
    refine ⟨fun x hx => ?_, by omega⟩
    obtain ⟨e1, e2⟩ := entChk_len (b3 x hx).1
    unfold fewE
    rw [decide_eq_true_iff]; omega
  · obtain ⟨e1, e2⟩ := entChk_len (b3 x hx).1
    omega
  · unfold keyF
    rw [b2, v5, c1, List.take_add]
theorem dparse_put {s : List UInt8} (h : (dparse s).2 = 0) (hs : s.length ≤ 100000000) : DOk (dparse s).1 s := by
  unfold dparse at h ⊢
  by_cases h1 : (dnext s).2.2 = 0
  rotate_left
  · rw [if_pos h1] at h; exact absurd h h1
  rw [if_neg (fun e => e h1)] at h ⊢
  by_cases h2 : (dnext s).2.1 < s.length
  · rw [if_pos h2] at h; exact absurd h (by simp)
  rw [if_neg h2]
  have := dnext_put h1 hs
  rw [List.take_of_length_le (by omega)] at this
  exact this
theorem pnext_put {s a : List UInt8} {first : Bool} (h : (pnext s a first).2.2 = 0) (hf : first = true → a = []) : oneF a (pnext s a first).1 = s.take (pnext s a first).2.1 ∧ (first = false → a < (pnext s a first).1) := by
  have ha : (if first = true then [] else a) = a := by
    cases first with
    | true => rw [if_pos rfl, hf rfl]
    | false => rfl
  unfold pnext at h ⊢
  simp only [ha] at h ⊢
  by_cases h1 : (vget s).2.2 = 0
  rotate_left
  · rw [if_pos h1] at h; exact absurd h h1
  rw [if_neg (fun e => e h1)] at h ⊢
  by_cases h2 : a.length < (vget s).1
  · rw [if_pos h2] at h; exact absurd h (by simp [pfail])
  rw [if_neg h2] at h ⊢
  by_cases h3 : (vget (s.drop (vget s).2.1)).2.2 = 0
  rotate_left
  · rw [if_pos h3] at h; exact absurd h h3
  rw [if_neg (fun e => e h3)] at h ⊢
  by_cases h4 : s.length - ((vget s).2.1 + (vget (s.drop (vget s).2.1)).2.1) < (vget (s.drop (vget s).2.1)).1
  · rw [if_pos h4] at h; exact absurd h (by simp [pfail])
  rw [if_neg h4] at h ⊢
  obtain ⟨v1, v2, v3, v4, v5⟩ := vget_ok h1
  obtain ⟨u1, u2, u3, u4, u5⟩ := vget_ok h3
  have hx : ((s.drop ((vget s).2.1 + (vget (s.drop (vget s).2.1)).2.1)).take (vget (s.drop (vget s).2.1)).1).length = (vget (s.drop (vget s).2.1)).1 := by
    rw [List.length_take, List.length_drop]; omega
  generalize hX : (s.drop ((vget s).2.1 + (vget (s.drop (vget s).2.1)).2.1)).take (vget (s.drop (vget s).2.1)).1 = X at *
  by_cases h5 : first = false ∧ Op.bytesLess a (a.take (vget s).1 ++ X) = false
  · rw [if_pos h5] at h; exact absurd h (by simp [pfail])
  rw [if_neg h5] at h ⊢
  by_cases h6 : (vget s).1 < common a (a.take (vget s).1 ++ X)
  · rw [if_pos h6] at h; exact absurd h (by simp [pfail])
  rw [if_neg h6]
  have hge := common_ge (vget s).1 a X (by omega)
  have hc : common a (a.take (vget s).1 ++ X) = (vget s).1 := by omega
  refine ⟨?_, fun hf => ?_⟩
  · unfold oneF
    simp only [hc]
    have hl : (a.take (vget s).1 ++ X).length - (vget s).1 = (vget (s.drop (vget s).2.1)).1 := by
      rw [List.length_append, List.length_take, hx]; omega
    have hd : (a.take (vget s).1 ++ X).drop (vget s).1 = X := by
      rw [List.drop_append_of_le_length (by rw [List.length_take]; omega)]
      rw [List.drop_eq_nil_of_le (by rw [List.length_take]; omega)]
      rfl
    rw [hl, hd, v5, u5, ← hX]
    rw [List.take_add, List.take_add, ← List.drop_drop]
  · simp only [hf, true_and] at h5
    rw [← bl_iff]
    simpa using h5
theorem ploop_put : ∀ (m : Nat) (a : List UInt8) (first : Bool) (s : List UInt8), (ploop m a first s).2.2 = 0 → (first = true → a = []) → a.length + s.length ≤ 100000000 →
    rowsPut a (ploop m a first s).1 = s.take (ploop m a first s).2.1 ∧ Rise (ploop m a first s).1 ∧ (first = false → ∀ r ∈ (ploop m a first s).1, a < K r) ∧ (∀ r ∈ (ploop m a first s).1, rowChk r = 0 ∧ few12 r.1 = true ∧ Ents r.1 ∧ 0 ≤ r.2 ∧ r.2 < 18446744073709551616)
  | 0, a, first, s, _, _, _ => by simp [ploop, rowsPut, Rise]
  | m + 1, a, first, s, h, hf, hl => by
    rw [ploop_succ] at h ⊢
    by_cases h1 : (pnext s a first).2.2 = 0
    rotate_left
    · rw [if_pos h1] at h; exact absurd h h1
    rw [if_neg (fun e => e h1)] at h ⊢
    by_cases h2 : (qnext (pnext s a first).1 (s.drop (pnext s a first).2.1)).2.2 = 0
    rotate_left
    · rw [if_pos h2] at h; exact absurd h h2
    rw [if_neg (fun e => e h2)] at h ⊢
    by_cases h3 : (ploop m (pnext s a first).1 false (s.drop ((pnext s a first).2.1 + (qnext (pnext s a first).1 (s.drop (pnext s a first).2.1)).2.1))).2.2 = 0
    rotate_left
    · rw [if_pos h3] at h; exact absurd h h3
    rw [if_neg (fun e => e h3)]
    obtain ⟨a1, a2, a3⟩ := pnext_ok h1
    obtain ⟨p1, p2⟩ := pnext_put h1 hf
    obtain ⟨q1, q2, q3, q4, q5⟩ := qnext_ok h2
    have hxl : (pnext s a first).1.length ≤ a.length + (pnext s a first).2.1 := by
      cases first <;> simp at a3 <;> omega
    obtain ⟨v1, v2, v3, v4, v5⟩ := vget_ok q2
    have dk := dparse_put q1 (by omega)
    obtain ⟨b1, b2, b3, b4⟩ := ploop_put m _ false _ h3 (fun e => by cases e) (by rw [List.length_drop]; omega)
    have hK : K (qnext (pnext s a first).1 (s.drop (pnext s a first).2.1)).1 = (pnext s a first).1 := by rw [q4]; exact dk.put
    have hN : (qnext (pnext s a first).1 (s.drop (pnext s a first).2.1)).1.2.toNat = (vget (s.drop (pnext s a first).2.1)).1 := by rw [q4]; simp
    simp only
    refine ⟨?_, ?_, fun hff r hr => ?_, fun r hr => ?_⟩
    · show oneF a (K _) ++ (vput _ ++ rowsPut (K _) _) = _
      rw [hK, hN, b1, p1, v5, ← q5]
      rw [List.take_add, List.take_add, List.append_assoc]
    · refine List.pairwise_cons.2 ⟨fun r hr => ?_, b2⟩
      rw [hK]
      exact b3 rfl r hr
    · rcases List.mem_cons.1 hr with rfl | hr
      · rw [hK]; exact p2 hff
      · exact List.lt_trans (p2 hff) (b3 rfl r hr)
    · rcases List.mem_cons.1 hr with rfl | hr
      · rw [q4]
        refine ⟨?_, dk.few, dk.ents, by simp only; omega, by simp only; omega⟩
        rw [rowChk_iff]
        exact ⟨dk.chk, by simp only; omega⟩
      · exact b4 r hr
structure TOk (t : List Row) : Prop where
  ok : Ok t
  few : Few t
  rows : Rows t
theorem TOk.tb {t : List Row} (h : TOk t) : checkT t = 0 := (checkT_iff t).2 h.ok
theorem knext_put {s : List UInt8} (h : (knext s).2.2 = 0) (hs : s.length ≤ 100000000) : packF (knext s).1 = s.take (knext s).2.1 ∧ TOk (knext s).1 := by
  obtain ⟨a1, a2, a3, a4, a5, a6⟩ := knext_ok h
  obtain ⟨v1, v2, v3, v4, v5⟩ := vget_ok a1
  obtain ⟨l1, l2⟩ := ploop_ok _ _ _ _ a3
  obtain ⟨b1, b2, _, b4⟩ := ploop_put _ _ _ _ a3 (fun _ => rfl) (by rw [List.length_drop]; simp; omega)
  rw [a4, a5]
  refine ⟨?_, ⟨by omega, b2, fun r hr => (b4 r hr).1⟩, fun r hr => (b4 r hr).2.1, by omega, fun r hr => (b4 r hr).2.2⟩
  unfold packF
  rw [l2, v5, b1, List.take_add]
theorem tok_nil : TOk [] := ⟨⟨by simp, List.Pairwise.nil, by simp⟩, fun r hr => by simp at hr, by simp, by simp⟩
theorem tparse_put {s : List UInt8} (hs : s.length ≤ 100000000) : TOk (tparse s).1 ∧ ((tparse s).2 = 0 → packF (tparse s).1 = s) ∧ ((tparse s).2 ≠ 0 → (tparse s).1 = []) := by
  unfold tparse
  by_cases h1 : (knext s).2.2 = 0
  rotate_left
  · rw [if_pos h1]
    exact ⟨tok_nil, fun h => absurd h h1, fun _ => rfl⟩
  rw [if_neg (fun e => e h1)]
  by_cases h2 : (knext s).2.1 < s.length
  · rw [if_pos h2]
    exact ⟨tok_nil, fun h => absurd h (by decide), fun _ => rfl⟩
  rw [if_neg h2]
  obtain ⟨b1, b2⟩ := knext_put h1 hs
  rw [List.take_of_length_le (by omega)] at b1
  exact ⟨b2, fun _ => b1, fun h => absurd rfl h⟩
theorem TOk.len {t : List Row} (h : TOk t) : t.length ≤ 256 := h.ok.1
theorem tnext_of (a x : List UInt8) (ha : a.length ≤ 100000000) : tnext (vput a.length ++ (a ++ x)) = (a, (vput a.length).length + a.length, 0) := by
  have h := vget_put a.length (a ++ x) (by omega)
  unfold tnext
  rw [h]
  simp only [ne_eq, not_true_eq_false, if_false]
  have hl : (vput a.length ++ (a ++ x)).length = (vput a.length).length + (a.length + x.length) := by simp
  rw [hl, if_neg (by omega), List.drop_left, List.take_left]
theorem enext_of (e : Ent) (y : List UInt8) (h : entChk e = 0) : enext (entPut e ++ y) = (e, (entPut e).length, 0) := by
  obtain ⟨l1, l2⟩ := entChk_len h
  have e1 : entPut e ++ y = vput e.1.length ++ (e.1 ++ (vput e.2.length ++ (e.2 ++ y))) := by unfold entPut; simp
  have h1 := tnext_of e.1 (vput e.2.length ++ (e.2 ++ y)) (by omega)
  have h2 := tnext_of e.2 y (by omega)
  have hd : (vput e.1.length ++ (e.1 ++ (vput e.2.length ++ (e.2 ++ y)))).drop ((vput e.1.length).length + e.1.length) = vput e.2.length ++ (e.2 ++ y) := by
    rw [← List.append_assoc, ← List.length_append, List.drop_left]
  have hl : (entPut e).length = (vput e.1.length).length + e.1.length + ((vput e.2.length).length + e.2.length) := by unfold entPut; simp; omega
  unfold enext
  rw [e1, h1]
  simp only [ne_eq, not_true_eq_false, if_false, hd, h2]
  have he : entChk (e.1, e.2) = 0 := h
  rw [he, hl]
  simp
theorem chkL_cons {p : Option (List UInt8)} {x : Ent} {xs : List Ent} (h : chkL p (x :: xs) = 0) : entChk x = 0 ∧ (∀ k, p = some k → behE k x.1 = 0) ∧ chkL (some x.1) xs = 0 := by
  unfold chkL at h
  by_cases h1 : entChk x = 0
  rotate_left
  · rw [if_pos h1] at h; exact absurd h h1
  rw [if_neg (fun e => e h1)] at h
  cases p with
  | none => exact ⟨h1, (fun k hk => by cases hk), h⟩
  | some k =>
    simp only at h
    by_cases c1 : x.1 = k
    · rw [if_pos c1] at h; exact absurd h (by decide)
    rw [if_neg c1] at h
    by_cases c2 : Op.bytesLess x.1 k = true
    · rw [if_pos c2] at h; exact absurd h (by decide)
    rw [if_neg c2] at h
    refine ⟨h1, fun k' hk => ?_, h⟩
    cases hk
    unfold behE
    rw [if_neg c1, if_neg c2]
theorem dloop_of : ∀ (d : List Ent) (p : Option Ent) (y : List UInt8), chkL (p.map (·.1)) d = 0 → dloop d.length p (d.flatMap entPut ++ y) = (d, (d.flatMap entPut).length, 0)
  | [], p, y, _ => by simp [dloop]
  | x :: d, p, y, h => by
    obtain ⟨h1, h2, h3⟩ := chkL_cons h
    have he := enext_of x (d.flatMap entPut ++ y) h1
    have hs : (x :: d).flatMap entPut ++ y = entPut x ++ (d.flatMap entPut ++ y) := by simp
    have ih := dloop_of d (some x) y h3
    have hb : behO p x = 0 := by
      cases p with
      | none => rfl
      | some k => exact h2 k.1 rfl
    rw [List.length_cons, dloop_succ, hs, he]
    simp only [ne_eq, not_true_eq_false, if_false, List.drop_left, hb, ih]
    simp
theorem dnext_of (d : List Ent) (y : List UInt8) (h : descrChk d = 0) : dnext (keyF d ++ y) = (d, (keyF d).length, 0) := by
  unfold descrChk at h
  by_cases h1 : d.length = 0
  · rw [if_pos h1] at h; exact absurd h (by decide)
  rw [if_neg h1] at h
  by_cases h2 : 16 < d.length
  · rw [if_pos h2] at h; exact absurd h (by decide)
  rw [if_neg h2] at h
  have hv := vget_put d.length (d.flatMap entPut ++ y) (by omega)
  have hk : keyF d ++ y = vput d.length ++ (d.flatMap entPut ++ y) := by unfold keyF; simp
  have hl := dloop_of d none y h
  unfold dnext
  rw [hk, hv]
  simp only [ne_eq, not_true_eq_false, if_false, h1, h2, List.drop_left, hl]
  unfold keyF
  simp
theorem dparse_of (d : List Ent) (h : descrChk d = 0) : dparse (keyF d) = (d, 0) := by
  have := dnext_of d [] h
  rw [List.append_nil] at this
  unfold dparse
  rw [this]
  simp
theorem common_drop (a s : List UInt8) : a.take (common a s) ++ s.drop (common a s) = s := by
  rw [common_take, List.take_append_drop]
theorem pnext_of (a t y : List UInt8) (first : Bool) (hf : first = true → a = []) (hn : first = false → a < t) (ht : t.length ≤ 100000000) : pnext (oneF a t ++ y) a first = (t, (oneF a t).length, 0) := by
  have ha : (if first = true then [] else a) = a := by
    cases first with
    | true => rw [if_pos rfl, hf rfl]
    | false => rfl
  obtain ⟨c1, c2⟩ := common_le a t
  have e1 : oneF a t ++ y = vput (common a t) ++ (vput (t.length - common a t) ++ (t.drop (common a t) ++ y)) := by unfold oneF; simp
  have v1 := vget_put (common a t) (vput (t.length - common a t) ++ (t.drop (common a t) ++ y)) (by omega)
  have v2 := vget_put (t.length - common a t) (t.drop (common a t) ++ y) (by omega)
  have hl : (oneF a t).length = (vput (common a t)).length + (vput (t.length - common a t)).length + (t.length - common a t) := by unfold oneF; simp; omega
  have hd : (vput (common a t) ++ (vput (t.length - common a t) ++ (t.drop (common a t) ++ y))).drop ((vput (common a t)).length + (vput (t.length - common a t)).length) = t.drop (common a t) ++ y := by
    rw [← List.append_assoc, ← List.length_append, List.drop_left]
  have hx : (t.drop (common a t) ++ y).take (t.length - common a t) = t.drop (common a t) := by
    rw [← List.length_drop, List.take_left]
  have hb : ¬ (first = false ∧ Op.bytesLess a t = false) := by
    rintro ⟨h1, h2⟩
    have := (bl_iff a t).2 (hn h1)
    rw [h2] at this; cases this
  unfold pnext
  simp only [ha]
  rw [e1, v1]
  simp only [ne_eq, not_true_eq_false, if_false, List.drop_left, v2, hd, hx, common_drop]
  rw [if_neg (by omega), if_neg (by simp; omega), if_neg hb, if_neg (by omega), hl]
theorem ploop_of : ∀ (l : List Row) (a : List UInt8) (first : Bool) (y : List UInt8), (first = true → a = []) → (first = false → ∀ r ∈ l, a < K r) → Rise l → (∀ r ∈ l, rowChk r = 0 ∧ few12 r.1 = true ∧ 0 ≤ r.2 ∧ r.2 < 18446744073709551616) →
    ploop l.length a first (rowsPut a l ++ y) = (l, (rowsPut a l).length, 0)
  | [], a, first, y, _, _, _, _ => by simp [ploop, rowsPut]
  | r :: l, a, first, y, hf, hn, hr, hc => by
    obtain ⟨h1, h2⟩ := List.pairwise_cons.1 hr
    obtain ⟨q1, q2, q3, q4⟩ := hc r (by simp)
    have hk : (K r).length ≤ 30000 := key_len q2
    rw [rowChk_iff] at q1
    have hs : rowsPut a (r :: l) ++ y = oneF a (K r) ++ (vput r.2.toNat ++ (rowsPut (K r) l ++ y)) := by simp [rowsPut]
    have hp := pnext_of a (K r) (vput r.2.toNat ++ (rowsPut (K r) l ++ y)) first hf (fun e => hn e r (by simp)) (by omega)
    have hv := vget_put r.2.toNat (rowsPut (K r) l ++ y) (by omega)
    have hd := dparse_of r.1 q1.1
    have ih := ploop_of l (K r) false y (fun e => by cases e) (fun _ => h1) h2 fun q hq => hc q (by simp [hq])
    have hdd : (oneF a (K r) ++ (vput r.2.toNat ++ (rowsPut (K r) l ++ y))).drop ((oneF a (K r)).length + (vput r.2.toNat).length) = rowsPut (K r) l ++ y := by
      rw [← List.append_assoc, ← List.length_append, List.drop_left]
    have hq : qnext (K r) (vput r.2.toNat ++ (rowsPut (K r) l ++ y)) = (r, (vput r.2.toNat).length, 0) := by
      unfold qnext
      rw [hv, hd]
      simp only [ne_eq, not_true_eq_false, if_false]
      rw [if_neg (by omega)]
      have : ((r.2.toNat : Nat) : Int) = r.2 := by omega
      rw [this]
    rw [List.length_cons, ploop_succ, hs, hp]
    simp only [ne_eq, not_true_eq_false, if_false, List.drop_left, hq, hdd, ih]
    simp [rowsPut, Nat.add_assoc]
theorem knext_of (t : List Row) (y : List UInt8) (h : TOk t) : knext (packF t ++ y) = (t, (packF t).length, 0) := by
  have hl := h.len
  have hv := vget_put t.length (rowsPut [] t ++ y) (by omega)
  have hk : packF t ++ y = vput t.length ++ (rowsPut [] t ++ y) := by unfold packF; simp
  have hp := ploop_of t [] true y (fun _ => rfl) (fun e => by cases e) h.ok.2.1 fun r hr => ⟨h.ok.2.2 r hr, h.few r hr, (h.rows.2 r hr).2.1, (h.rows.2 r hr).2.2⟩
  unfold knext
  rw [hk, hv]
  simp only [ne_eq, not_true_eq_false, if_false, List.drop_left, hp]
  rw [if_neg (by omega)]
  unfold packF
  simp
theorem tparse_of (t : List Row) (h : TOk t) : tparse (packF t) = (t, 0) := by
  have := knext_of t [] h
  rw [List.append_nil] at this
  unfold tparse
  rw [this]
  simp
theorem tparse_more (t : List Row) (h : TOk t) : tparse (packF t ++ [120]) = ([], 10) := by
  unfold tparse
  rw [knext_of t [120] h]
  simp
theorem back_step1 (LA LT : List GV) (s PA PX c0 : List UInt8) (hc : ([120] : List UInt8) = c0) (k1 : TT.lim 42 [.l LA] = some [.b true]) (c3 : ¬ (6000 : Int) < s.length) (c3n : ¬ 6000 < s.length) (p1 : TT.lim 49 [.l LA] = some [.s PA, .i .i64 0]) (g0 : TT.lim 82 [.s PA] = some [.l LA, .i .i64 0])
    (g2 : TT.lim 82 [.s PX] = some [.l [], .i .i64 10]) (sm : TT.lim 104 [.l LA, .l LA] = some [.b true]) (g1 : TT.lim 82 [.s s] = some [.l LT, .i .i64 0]) (r2 : TT.lim 49 [.l LT] = some [.s s, .i .i64 0]) (r3 : TT.lim 50 [.l LT] = some [.i .i64 0])
    (hb : bin2 .add (some (.s PA)) (some (.s c0)) = some (.s PX)) : TT.lim 103 [.l LA, .s s] = some [.b true] := by
  refine fn_lim rfl rfl ?_ rfl
  simp [-bin2_sadd, hc, k1, c3, c3n, p1, hb, g0, g2, sm, g1, r2, r3]
theorem back_step2 (LA : List GV) (s PA PX c0 : List UInt8) (hc : ([120] : List UInt8) = c0) (E1 : Int) (he : ¬ E1 = 0) (k1 : TT.lim 42 [.l LA] = some [.b true]) (c3 : ¬ (6000 : Int) < s.length) (c3n : ¬ 6000 < s.length) (p1 : TT.lim 49 [.l LA] = some [.s PA, .i .i64 0]) (g0 : TT.lim 82 [.s PA] = some [.l LA, .i .i64 0])
    (g2 : TT.lim 82 [.s PX] = some [.l [], .i .i64 10]) (sm : TT.lim 104 [.l LA, .l LA] = some [.b true]) (g1 : TT.lim 82 [.s s] = some [.l [], .i .i64 E1])
    (hb : bin2 .add (some (.s PA)) (some (.s c0)) = some (.s PX)) : TT.lim 103 [.l LA, .s s] = some [.b true] := by
  refine fn_lim rfl rfl ?_ rfl
  simp [-bin2_sadd, hc, k1, c3, c3n, p1, hb, g0, g2, sm, g1, he]
theorem back_step (LA LT : List GV) (s PA PX : List UInt8) (E1 : Int) (k1 : TT.lim 42 [.l LA] = some [.b true]) (c3 : ¬ (6000 : Int) < s.length) (p1 : TT.lim 49 [.l LA] = some [.s PA, .i .i64 0]) (g0 : TT.lim 82 [.s PA] = some [.l LA, .i .i64 0])
    (g2 : TT.lim 82 [.s PX] = some [.l [], .i .i64 10]) (sm : TT.lim 104 [.l LA, .l LA] = some [.b true]) (g1 : TT.lim 82 [.s s] = some [.l LT, .i .i64 E1]) (r1 : E1 ≠ 0 → LT = []) (r2 : E1 = 0 → TT.lim 49 [.l LT] = some [.s s, .i .i64 0]) (r3 : TT.lim 50 [.l LT] = some [.i .i64 0])
    (hb : bin2 .add (some (.s PA)) (some (.s [120])) = some (.s PX)) : TT.lim 103 [.l LA, .s s] = some [.b true] := by
  have c3n : ¬ 6000 < s.length := by omega
  by_cases he : E1 = 0
  · subst he
    have r2 := r2 rfl
    exact back_step1 LA LT s PA PX _ rfl k1 c3 c3n p1 g0 g2 sm g1 r2 r3 hb
  · have := r1 he
    subst this
    exact back_step2 LA s PA PX _ rfl E1 he k1 c3 c3n p1 g0 g2 sm g1 hb
theorem back15 (a : List Row) (s : List UInt8) (ha : Rows a) (hs : s.length ≤ 140737488351232) : TT.lim 103 [.l (a.map row), .s s] = some [.b true] := by
  have k1 := few2 a ha
  by_cases c1 : few13 a = true
  rotate_left
  · have c1 : few13 a = false := by simpa using c1
    rw [c1] at k1
    refine fn_lim rfl rfl ?_ rfl
    simp [k1]
  rw [c1] at k1
  have ga := good_of ha c1
  by_cases c3 : 6000 < s.length
  · have c3' : (6000 : Int) < s.length := by omega
    refine fn_lim rfl rfl ?_ rfl
    simp [k1, c3, c3']
  have c3' : ¬ (6000 : Int) < s.length := by omega
  have p1 := kputP a ha ga.few
  have g1 := tparseP s (by omega)
  obtain ⟨ok1, ok2, ok3⟩ := tparse_put (s := s) (by omega)
  have p2 := kputP (tparse s).1 ok1.rows ok1.few
  have hc2 := check37 (tparse s).1 ok1.rows ok1.few
  have hpk : putK (tparse s).1 = (packF (tparse s).1, 0) := by unfold putK; rw [ok1.tb]; rfl
  rw [hpk] at p2
  rw [ok1.tb] at hc2
  -- the second part
  have part2 : ∀ (E1 : Int) (t : List Row), E1 = (tparse s).2 → t = (tparse s).1 → (E1 ≠ 0 → t = []) ∧ (E1 = 0 → TT.lim 49 [.l (t.map row)] = some [.s s, .i .i64 0]) ∧ TT.lim 50 [.l (t.map row)] = some [.i .i64 0] := by
    rintro E1 t rfl rfl
    exact ⟨ok3, fun h => by rw [p2, ok2 h], hc2⟩
  obtain ⟨r1, r2, r3⟩ := part2 _ _ rfl rfl
  by_cases ca : checkT a = 0
  rotate_left
  · have hpa : putK a = ([], checkT a) := by unfold putK; rw [if_pos ca]
    rw [hpa] at p1
    clear part2 p2 hc2 hpk ok1 ok2 ok3
    generalize (tparse s).2 = E1 at *
    generalize (tparse s).1 = t at *
    generalize a.map row = LA at *
    by_cases he : E1 = 0
    · have r2 := r2 he
      subst he
      generalize t.map row = L1 at *
      refine fn_lim rfl rfl ?_ rfl
      simp [k1, c3, c3', p1, ca, g1, r2, r3]
    · have := r1 he
      subst this
      refine fn_lim rfl rfl ?_ rfl
      simp at g1
      simp [k1, c3, c3', p1, ca, g1, he]
  have oka : TOk a := ⟨(checkT_iff a).1 ca, ga.few, ha⟩
  have hpa : putK a = (packF a, 0) := by unfold putK; rw [ca]; rfl
  rw [hpa] at p1
  have hff : ∀ r ∈ a, few12 r.1 = true ∧ 0 ≤ r.2 ∧ r.2 < 18446744073709551616 := fun r hr => ⟨ga.few r hr, (ha.2 r hr).2.1, (ha.2 r hr).2.2⟩
  have l256 := oka.len
  have lv := vput_len (n := a.length) (by omega)
  have lr := rowsPut_len a [] hff
  have lp : (packF a).length ≤ 90000000 := by unfold packF; rw [List.length_append]; omega
  have g0 := tparseP (packF a) (by omega)
  rw [tparse_of a oka] at g0
  have g2 := tparseP (packF a ++ [120]) (by rw [List.length_append, List.length_singleton]; omega)
  rw [tparse_more a oka] at g2
  have sm := same_good a a ga ga
  rw [decide_eq_true rfl] at sm
  exact back_step _ _ s (packF a) (packF a ++ [120]) _ k1 c3' p1 g0 g2 sm g1 (fun h => by rw [r1 h]; rfl) r2 r3 (by rw [bin2_sadd, if_pos (by simp only [List.length_singleton]; omega)])
theorem packBack (gs : List GV) (h : hasArgs [(false, rowsTy), (false, [.str])] gs) : TT.lim 103 gs = some [.b true] := by
  obtain ⟨a, gs, rfl, h1, h⟩ := hasA_sc h
  obtain ⟨s, gs, rfl, h2, h⟩ := hasA_sc h
  obtain rfl := hasA_nil h
  obtain ⟨a, ha, rfl⟩ := rows_of h1
  obtain ⟨s, rfl, hs⟩ := has_str h2
  exact back15 a s ha hs
end E
end Go.Proofs.YtamcdgfjjeldeaaGreatDoor
