/- What the trees compute: plain laws. -/
import Derived.Test.YtamcdgfjjeldeaaGreatDoorKET
import Derived.Test.YtamcdgfjjeldeaaGreatDoorAbsPl
import Derived.Lib.TrimUEq
import Derived.Lib.MapLaws
namespace Go.Proofs.YtamcdgfjjeldeaaGreatDoor
open Go Go.Abs
set_option linter.unusedSimpArgs false
set_option linter.unusedVariables false
set_option maxRecDepth 100000
namespace E
theorem bytesLess_lt : ∀ a b : List UInt8, Op.bytesLess a b = decide (a < b)
  | _, [] => by simp [Op.bytesLess]
  | [], _ :: _ => by simp [Op.bytesLess]
  | a :: x, b :: y => by
    rw [Op.bytesLess, bytesLess_lt x y, Bool.eq_iff_iff]
    simp [List.cons_lt_cons_iff]
/-- An entry: key and value. A row: its entries and its number. -/
abbrev Ent := List UInt8 × List UInt8
abbrev Row := List Ent × Int
def ent (x : Ent) : GV := .g [.s x.1, .s x.2]
def row (r : Row) : GV := .g [.l (r.1.map ent), .i .u64 r.2]
@[simp] theorem ent_cells (x : Ent) : (ent x).cells = [.s x.1, .s x.2] := rfl
@[simp] theorem row_cells (r : Row) : (row r).cells = [.l (r.1.map ent), .i .u64 r.2] := rfl
@[simp] theorem ent_scalar (x : Ent) : (ent x).scalar = false := rfl
@[simp] theorem row_scalar (r : Row) : (row r).scalar = false := rfl
/-- Texts and lists of no more than any machine bears. -/
def Ents (d : List Ent) : Prop := d.length ≤ 140737488351232 ∧ ∀ x ∈ d, x.1.length ≤ 140737488351232 ∧ x.2.length ≤ 140737488351232
def Rows (l : List Row) : Prop := l.length ≤ 140737488351232 ∧ ∀ r ∈ l, Ents r.1 ∧ 0 ≤ r.2 ∧ r.2 < 18446744073709551616
def fewE (x : Ent) : Bool := decide (x.1.length + x.2.length ≤ 600)
theorem loop5 (d : List Ent) (hd : Ents d) : ∀ m i : Nat, i + m = d.length → TT.lim 45 [.l (d.map ent), .i .i64 d.length, .i .i64 i] = some (if (d.drop i).all fewE = true then [.i .i64 1, .l (d.map ent)] else [.i .i64 0])
  | 0, i, hi => by
    have h0 : d.drop i = [] := List.drop_eq_nil_of_le (by omega)
    refine tree_lim rfl rfl ?_
    have h : ¬ ((i : Int) < d.length) := by omega
    simp [h, h0]
  | m + 1, i, hi => by
    have hlt : i < d.length := by omega
    have ih : TT.lim 45 [.l (d.map ent), .i .i64 d.length, .i .i64 ((i : Int) + 1)] = _ := loop5 d hd m (i + 1) (by omega)
    refine tree_lim rfl rfl ?_
    have h : ((i : Int) < d.length) := by omega
    have hw := wrap64 (n := (i : Int) + 1) (by omega) (by have := hd.1; omega)
    have hx := hd.2 d[i] (List.getElem_mem hlt)
    have hw2 := wrap64 (n := (d[i].1.length : Int) + (d[i].2.length : Int)) (by omega) (by omega)
    have hda : (d.drop i).all fewE = (fewE d[i] && (d.drop (i + 1)).all fewE) := by rw [List.drop_eq_getElem_cons hlt, List.all_cons]
    by_cases hf : (600 : Int) < (d[i].1.length : Int) + (d[i].2.length : Int)
    · have : fewE d[i] = false := by unfold fewE; simp; omega
      simp [h, hlt, hw2, hf, hda, this]
    · have : fewE d[i] = true := by unfold fewE; simp; omega
      rw [hda, this, Bool.true_and]
      simp [h, hlt, hw, hw2, hf, ih]
def few12 (d : List Ent) : Bool := d.all fewE && decide (d.length ≤ 40)
theorem few4 (d : List Ent) (hd : Ents d) : TT.lim 44 [.l (d.map ent)] = some [.b (few12 d)] := by
  refine fn_lim rfl rfl ?_ rfl
  have h5 : TT.lim 45 [.l (d.map ent), .i .i64 d.length, .i .i64 0] = _ := loop5 d hd d.length 0 (by omega)
  rw [List.drop_zero] at h5
  cases hc : d.all fewE with
  | false => rw [hc] at h5; simp [h5, few12, hc]
  | true =>
    rw [hc] at h5; simp only [if_true] at h5
    have : (decide ((d.length : Int) ≤ 40)) = decide (d.length ≤ 40) := by rw [Bool.eq_iff_iff]; simp; omega
    simp [h5, few12, hc, this]
def vput (n : Nat) : List UInt8 := if n < 128 then [UInt8.ofNat n] else UInt8.ofNat (n % 128 + 128) :: vput (n / 128)
termination_by n
decreasing_by omega
theorem vput_lt {n : Nat} (h : n < 128) : vput n = [UInt8.ofNat n] := by rw [vput, if_pos h]
theorem vput_ge {n : Nat} (h : ¬ n < 128) : vput n = UInt8.ofNat (n % 128 + 128) :: vput (n / 128) := by rw [vput, if_neg h]
def vsize (n : Nat) : Nat := (vput n).length
theorem shr7 {n : Int} (h0 : 0 ≤ n) : n.fdiv (2 ^ (7 : Nat)) = n / 128 := by
  rw [Int.fdiv_eq_ediv_of_nonneg _ (by decide)]; rfl
theorem shr_u64 {n : Nat} : shG .shr .u64 (n : Int) 7 = some (.i .u64 ((n / 128 : Nat) : Int)) := by
  have : ((n : Int)).fdiv (2 ^ (7 : Nat)) = ((n / 128 : Nat) : Int) := by rw [shr7 (by omega)]; omega
  simp [shG, IntKind.bits]
  exact this
theorem vsize_pos (n : Nat) : 0 < vsize n := by unfold vsize; rw [vput]; split <;> simp
theorem vsize_ge {n : Nat} (h : ¬ n < 128) : vsize n = vsize (n / 128) + 1 := by unfold vsize; rw [vput_ge h]; rfl
theorem vsize_le : ∀ (k n : Nat), 0 < k → n < 128 ^ k → vsize n ≤ k
  | 0, _, h, _ => by omega
  | k + 1, n, _, h => by
    by_cases hn : n < 128
    · unfold vsize; rw [vput_lt hn]; simp
    · rw [vsize_ge hn]
      cases k with
      | zero => simp at h; omega
      | succ k =>
        have : n / 128 < 128 ^ (k + 1) := by rw [Nat.pow_succ] at h; omega
        have := vsize_le (k + 1) (n / 128) (by omega) this
        omega
theorem vsize64 {n : Nat} (h : n < 18446744073709551616) : vsize n ≤ 10 := vsize_le 10 n (by omega) (by omega)
theorem loop9 : ∀ (n s : Nat), s + vsize n ≤ 1000 → n < 18446744073709551616 → TT.lim 10 [.i .u64 n, .i .i64 s] = some [.i .i64 0, .i .i64 ((s + vsize n - 1 : Nat) : Int)] := by
  intro n
  induction n using Nat.strongRecOn with
  | _ n ih =>
    intro s hs hn
    refine tree_lim rfl rfl ?_
    by_cases h : n < 128
    · have h' : ¬ (128 : Int) ≤ n := by omega
      simp [h', vsize, vput_lt h]
    · have h' : (128 : Int) ≤ n := by omega
      have hv := vsize_ge h
      have hp := vsize_pos (n / 128)
      have hw := wrap64 (n := (s : Int) + 1) (by omega) (by omega)
      have ih' : TT.lim 10 [.i .u64 ((n / 128 : Nat) : Int), .i .i64 ((s : Int) + 1)] = _ := ih (n / 128) (by omega) (s + 1) (by omega) (by omega)
      have hn' : s + vsize n - 1 = s + 1 + vsize (n / 128) - 1 := by omega
      rw [hn']
      have h7 : shG .shr .u64 (n : Int) 7 = some (.i .u64 ((n / 128 : Nat) : Int)) := shr_u64
      generalize ((n / 128 : Nat) : Int) = q at h7 ih'
      simp [h', hw, h7, ih']
theorem size8 (n : Nat) (hn : n < 18446744073709551616) : TT.lim 9 [.i .u64 n] = some [.i .i64 (vsize n)] := by
  have hp := vsize_pos n
  have h9 : TT.lim 10 [.i .u64 n, .i .i64 1] = _ := loop9 n 1 (by have := vsize64 hn; omega) hn
  rw [show 1 + vsize n - 1 = vsize n by omega] at h9
  refine fn_lim rfl rfl ?_ rfl
  simp [h9]
/-- The bytes of a number, each with its high bit set. -/
def vraw : Nat → Nat → List Nat
  | 0, _ => []
  | k + 1, n => (n % 128 + 128) :: vraw k (n / 128)
def byteG (n : Nat) : GV := .i .u8 n
theorem and127 (n : Nat) (hn : n < 18446744073709551616) : intG .and .u64 (n : Int) 127 = some (.i .u64 ((n % 128 : Nat) : Int)) := by
  have h1 : ((BitVec.ofInt 64 (n : Int) &&& BitVec.ofInt 64 127).toNat : Nat) = n % 128 := by
    rw [BitVec.toNat_and, BitVec.toNat_ofInt, BitVec.toNat_ofInt]
    have e1 : ((n : Int) % ((2 ^ 64 : Nat) : Int)).toNat = n := by omega
    have e2 : ((127 : Int) % ((2 ^ 64 : Nat) : Int)).toNat = 2 ^ 7 - 1 := by decide
    rw [e1, e2, Nat.and_two_pow_sub_one_eq_mod]
  show some (GV.i .u64 (IntKind.u64.wrap (((BitVec.ofInt 64 (n : Int) &&& BitVec.ofInt 64 127).toNat : Nat) : Int))) = _
  rw [h1, wrapu64 (by omega) (by omega)]
theorem and127_8 (n : Nat) (hn : n < 256) : intG .and .u8 (n : Int) 127 = some (.i .u8 ((n % 128 : Nat) : Int)) := by
  have : ∀ x : Fin 256, IntKind.u8.wrap (((BitVec.ofInt IntKind.u8.bits ((x.val : Nat) : Int) &&& BitVec.ofInt IntKind.u8.bits 127).toNat : Nat) : Int) = ((x.val % 128 : Nat) : Int) := by decide +kernel
  show some (GV.i .u8 _) = some (GV.i .u8 _)
  exact congrArg (fun z => some (GV.i .u8 z)) (this ⟨n, hn⟩)
theorem or128 (n : Nat) (hn : n < 128) : intG .or .u8 (n : Int) 128 = some (.i .u8 ((n + 128 : Nat) : Int)) := by
  have : ∀ x : Fin 128, IntKind.u8.wrap (((BitVec.ofInt IntKind.u8.bits ((x.val : Nat) : Int) ||| BitVec.ofInt IntKind.u8.bits 128).toNat : Nat) : Int) = ((x.val + 128 : Nat) : Int) := by decide +kernel
  show some (GV.i .u8 _) = some (GV.i .u8 _)
  exact congrArg (fun z => some (GV.i .u8 z)) (this ⟨n, hn⟩)
theorem wrapu8 {n : Int} (h0 : 0 ≤ n) (h1 : n < 256) : IntKind.u8.wrap n = n := by
  have : IntKind.u8.wrap n = n % 256 := by simp [IntKind.wrap, IntKind.signed, IntKind.bits]
  rw [this]; omega
@[simp] theorem byteG_cells (n : Nat) : (byteG n).cells = [byteG n] := rfl
@[simp] theorem byteG_scalar (n : Nat) : (byteG n).scalar = true := rfl
@[simp] theorem byteG_put (n : Nat) (v : GV) : (byteG n).put 0 [v] = some v := rfl
theorem bytesG_map : ∀ l : List Nat, (∀ x ∈ l, x < 256) → bytesG (l.map byteG) = some (l.map UInt8.ofNat)
  | [], _ => rfl
  | a :: l, h => by
    have h1 := h a (by simp)
    have h2 := bytesG_map l fun x hx => h x (by simp [hx])
    simp only [List.map_cons, byteG, bytesG] at h2 ⊢
    rw [if_pos (by omega)]
    have : (fun n : Nat => GV.i .u8 (n : Int)) = byteG := rfl
    rw [h2]
    simp
theorem loop10 : ∀ (m n : Nat) (done : List Nat), n < 18446744073709551616 → done.length + m < 1000 →
    TT.lim 11 [.i .u64 n, .l ((done ++ List.replicate m 0).map byteG), .i .i64 ((done.length + m : Nat) : Int), .i .i64 done.length] = some [.i .i64 0, .l ((done ++ vraw m n).map byteG)]
  | 0, n, done, hn, hd => by
    refine tree_lim rfl rfl ?_
    simp [vraw]
  | m + 1, n, done, hn, hd => by
    have hlt : (done.length : Int) < ((done.length + (m + 1) : Nat) : Int) := by omega
    have hw := wrap64 (n := (done.length : Int) + 1) (by omega) (by omega)
    have hw8 := wrapu8 (n := ((n % 128 : Nat) : Int)) (by omega) (by omega)
    have h7 : shG .shr .u64 (n : Int) 7 = some (.i .u64 ((n / 128 : Nat) : Int)) := shr_u64
    have ha := and127 n hn
    have ho := or128 (n % 128) (by omega)
    have ih := loop10 m (n / 128) (done ++ [n % 128 + 128]) (by omega) (by simp; omega)
    have hlen : (done ++ [n % 128 + 128]).length + m = done.length + (m + 1) := by simp; omega
    rw [hlen] at ih
    have hl2 : (((done ++ [n % 128 + 128]).length : Nat) : Int) = (done.length : Int) + 1 := by simp
    rw [hl2] at ih
    have hset : ((done ++ List.replicate (m + 1) 0).map byteG).set done.length (byteG (n % 128 + 128)) = (done ++ [n % 128 + 128] ++ List.replicate m 0).map byteG := by
      rw [List.replicate_succ, ← List.map_set, List.set_append_right _ _ (Nat.le_refl _), Nat.sub_self]
      simp
    have hget : ((done ++ List.replicate (m + 1) 0).map byteG)[done.length]? = some (byteG 0) := by
      rw [List.getElem?_map, List.getElem?_append_right (Nat.le_refl _), Nat.sub_self, List.replicate_succ]; rfl
    have hll : ((done ++ List.replicate (m + 1) 0).map byteG).length = done.length + (m + 1) := by simp
    have hv : done ++ vraw (m + 1) n = done ++ [n % 128 + 128] ++ vraw m (n / 128) := by simp [vraw]
    rw [hv]
    generalize hL : (done ++ List.replicate (m + 1) 0).map byteG = L at *
    refine tree_lim rfl rfl ?_
    have hix : (0 : Int) ≤ (done.length : Int) ∧ (done.length : Int) < (L.length : Int) := by rw [hll]; omega
    have hob : GV.i IntKind.u8 ((n % 128 + 128 : Nat) : Int) = byteG (n % 128 + 128) := rfl
    have hset' : L.set done.length (GV.i IntKind.u8 ((n % 128 + 128 : Nat) : Int)) = (done ++ [n % 128 + 128] ++ List.replicate m 0).map byteG := hset
    generalize (done ++ [n % 128 + 128] ++ List.replicate m 0).map byteG = L2 at ih hset'
    generalize (done ++ [n % 128 + 128] ++ vraw m (n / 128)).map byteG = L3 at ih ⊢
    generalize ((n / 128 : Nat) : Int) = q at h7 ih
    generalize ((n % 128 + 128 : Nat) : Int) = z at ho hset'
    generalize ((n % 128 : Nat) : Int) = rr at ha hw8 ho
    generalize ((done.length + (m + 1) : Nat) : Int) = N at hlt ih ⊢
    simp [hlt, ha, hw8, ho, hix, hget, h7, hw, hset', ih]
theorem vraw_len : ∀ m n, (vraw m n).length = m
  | 0, _ => rfl
  | m + 1, n => by simp [vraw, vraw_len m]
theorem vraw_lt : ∀ m n, ∀ x ∈ vraw m n, x < 256
  | 0, _, x, h => by simp [vraw] at h
  | m + 1, n, x, h => by
    simp only [vraw, List.mem_cons] at h
    rcases h with rfl | h
    · omega
    · exact vraw_lt m _ x h
/-- The last byte without its high bit: as numbers are written. -/
theorem vraw_put : ∀ (s n : Nat), vsize n = s + 1 → ∃ x, (vraw (s + 1) n)[s]? = some x ∧ ((vraw (s + 1) n).set s (x % 128)).map UInt8.ofNat = vput n
  | 0, n, h => by
    have hn : n < 128 := by
      by_cases hn : n < 128
      · exact hn
      · rw [vsize_ge hn] at h; have := vsize_pos (n / 128); omega
    refine ⟨n % 128 + 128, by simp [vraw], ?_⟩
    rw [vput_lt hn]
    simp [vraw]
    rw [Nat.mod_eq_of_lt hn]
  | s + 1, n, h => by
    have hn : ¬ n < 128 := by
      intro hn
      unfold vsize at h; rw [vput_lt hn] at h; simp at h
    rw [vsize_ge hn] at h
    obtain ⟨x, h1, h2⟩ := vraw_put s (n / 128) (by omega)
    refine ⟨x, by simp only [vraw, List.getElem?_cons_succ] at h1 ⊢; exact h1, ?_⟩
    rw [vput_ge hn, ← h2]
    simp [vraw]
theorem put7 (n : Nat) (hn : n < 18446744073709551616) : TT.lim 8 [.i .u64 n] = some [.s (vput n)] := by
  have h8 := size8 n hn
  have hp := vsize_pos n
  have hs := vsize64 hn
  obtain ⟨s, hs1⟩ : ∃ s, vsize n = s + 1 := ⟨vsize n - 1, by omega⟩
  obtain ⟨x, h1, h2⟩ := vraw_put s n hs1
  rw [hs1] at h8
  have h10 : TT.lim 11 [.i .u64 n, .l ((List.replicate (s + 1) 0).map byteG), .i .i64 ((s + 1 : Nat) : Int), .i .i64 0] = some [.i .i64 0, .l ((vraw (s + 1) n).map byteG)] := by
    have := loop10 (s + 1) n [] hn (by simp; omega)
    simpa using this
  have hr : (List.replicate (s + 1) 0).map byteG = List.replicate (s + 1) (GV.i .u8 0) := by rw [List.map_replicate]; rfl
  rw [hr] at h10
  have hx : x < 256 := vraw_lt _ _ x (List.mem_of_getElem? h1)
  have ha := and127_8 x hx
  have hget : ((vraw (s + 1) n).map byteG)[s]? = some (byteG x) := by rw [List.getElem?_map, h1]; rfl
  have hset : ((vraw (s + 1) n).map byteG).set s (GV.i .u8 ((x % 128 : Nat) : Int)) = ((vraw (s + 1) n).set s (x % 128)).map byteG := (List.map_set (f := byteG) (l := vraw (s + 1) n) (i := s) (a := x % 128)).symm
  have hb := bytesG_map ((vraw (s + 1) n).set s (x % 128)) (fun y hy => by
    rcases List.mem_or_eq_of_mem_set hy with hy | rfl
    · exact vraw_lt _ _ y hy
    · omega)
  rw [h2] at hb
  have hlen : (((vraw (s + 1) n).set s (x % 128)).map byteG).length = s + 1 := by simp [vraw_len]
  have hlr : (List.replicate (s + 1) (GV.i .u8 0)).length = s + 1 := by simp
  have hl1 : ((vraw (s + 1) n).map byteG).length = s + 1 := by simp [vraw_len]
  generalize ((vraw (s + 1) n).set s (x % 128)).map byteG = L3 at hset hb hlen
  generalize (vraw (s + 1) n).map byteG = L2 at h10 hget hset hl1
  generalize hrep : List.replicate (s + 1) (GV.i .u8 0) = L1 at h10 hlr
  refine fn_lim rfl rfl ?_ rfl
  have hw := wrap64 (n := (s : Int)) (by omega) (by omega)
  have hcast : ((s + 1 : Nat) : Int) = (s : Int) + 1 := by omega
  rw [hcast] at h8 h10
  have hc1 : (0 : Int) ≤ (s : Int) + 1 ∧ (s : Int) + 1 ≤ 281474976710656 ∧ (s : Int) + 1 ≤ 1152921504606846976 := by omega
  have hc2 : ((s : Int) + 1).toNat = s + 1 := by omega
  have hlt : (s : Int) < (s : Int) + 1 := by omega
  have hs2 : (s : Int) + 1 - 1 = (s : Int) := by omega
  generalize hM : ((x % 128 : Nat) : Int) = M at ha hset
  have hxx : byteG x = .i .u8 x := rfl
  have h48 : s + 1 ≤ 281474976710656 := by omega
  have hg2 : L2[s]'(by omega) = byteG x := by have := hget; rw [List.getElem?_eq_getElem (by omega)] at this; exact Option.some.inj this
  simp [h8, hc1, hc2, hrep, hlr, h10, hl1, hs2, hw, hlt, hget, hg2, ha, hset, hxx, hlen, hb, h48, GV.elemOk]
theorem byteGs_append (a b : List UInt8) : byteGs (a ++ b) = byteGs a ++ byteGs b := by simp [byteGs]
@[simp] theorem byteGs_length (a : List UInt8) : (byteGs a).length = a.length := by simp [byteGs]
theorem byteGs_ok (a : List UInt8) : (byteGs a).all (GV.elemOk 1) = true := by
  rw [List.all_eq_true]
  intro x hx
  obtain ⟨b, _, rfl⟩ := List.mem_map.1 hx
  rfl
theorem bytesG_byteGs : ∀ a : List UInt8, bytesG (byteGs a) = some a
  | [] => rfl
  | x :: a => by
    have ih := bytesG_byteGs a
    simp only [byteGs, List.map_cons, bytesG] at ih ⊢
    have := x.toNat_lt
    rw [if_pos (by omega), ih]
    simp
def entPut (x : Ent) : List UInt8 := vput x.1.length ++ x.1 ++ vput x.2.length ++ x.2
def keyF (d : List Ent) : List UInt8 := vput d.length ++ d.flatMap entPut
theorem vput_len {n : Nat} (h : n < 18446744073709551616) : (vput n).length ≤ 10 := vsize64 h
theorem entput12 (x : Ent) (h1 : x.1.length ≤ 140737488351232) (h2 : x.2.length ≤ 140737488351232) : TT.lim 48 [ent x] = some [.s (entPut x)] := by
  have k1 := put7 x.1.length (by omega)
  have k2 := put7 x.2.length (by omega)
  have l1 := vput_len (n := x.1.length) (by omega)
  have l2 := vput_len (n := x.2.length) (by omega)
  have w1 := wrapu64 (n := (x.1.length : Int)) (by omega) (by omega)
  have w2 := wrapu64 (n := (x.2.length : Int)) (by omega) (by omega)
  refine fn_lim rfl rfl ?_ rfl
  have c1 : ((vput x.1.length).length : Int) + (x.1.length : Int) ≤ 9223372036854775807 := by omega
  have c2 : ((vput x.1.length).length : Int) + ((x.1.length : Int) + ((vput x.2.length).length : Int)) ≤ 9223372036854775807 := by omega
  have c3 : ((vput x.1.length).length : Int) + ((x.1.length : Int) + (((vput x.2.length).length : Int) + (x.2.length : Int))) ≤ 9223372036854775807 := by omega
  simp [w1, w2, k1, k2, c1, c2, c3, entPut, Int.add_assoc]
theorem entPut_len {x : Ent} (h : fewE x = true) : (entPut x).length ≤ 620 := by
  unfold fewE at h
  simp only [decide_eq_true_iff] at h
  have l1 := vput_len (n := x.1.length) (by omega)
  have l2 := vput_len (n := x.2.length) (by omega)
  simp only [entPut, List.length_append]
  omega
theorem flat_len620 : ∀ d : List Ent, d.all fewE = true → (d.flatMap entPut).length ≤ 620 * d.length
  | [], _ => by simp
  | x :: d, h => by
    rw [List.all_cons, Bool.and_eq_true] at h
    have := entPut_len h.1
    have := flat_len620 d h.2
    simp only [List.flatMap_cons, List.length_append, List.length_cons]
    omega
theorem loop11 (d : List Ent) (hf : d.all fewE = true) (hl : d.length ≤ 40) : ∀ (m i : Nat) (acc : List UInt8), i + m = d.length → acc.length ≤ 10 + 620 * i →
    TT.lim 47 [.l (d.map ent), .i .i64 d.length, .i .i64 i, .l (byteGs acc)] = some [.i .i64 0, .l (byteGs (acc ++ (d.drop i).flatMap entPut))]
  | 0, i, acc, hi, ha => by
    have h0 : d.drop i = [] := List.drop_eq_nil_of_le (by omega)
    refine tree_lim rfl rfl ?_
    have h : ¬ ((i : Int) < d.length) := by omega
    simp [h, h0]
  | m + 1, i, acc, hi, ha => by
    have hlt : i < d.length := by omega
    have hx := List.all_eq_true.1 hf d[i] (List.getElem_mem hlt)
    have hx1 := hx
    unfold fewE at hx1
    simp only [decide_eq_true_iff] at hx1
    have hp := entput12 d[i] (by omega) (by omega)
    have hpl := entPut_len hx
    have ih : TT.lim 47 [.l (d.map ent), .i .i64 d.length, .i .i64 ((i : Int) + 1), .l (byteGs (acc ++ entPut d[i]))] = _ := loop11 d hf hl m (i + 1) (acc ++ entPut d[i]) (by omega) (by simp; omega)
    rw [byteGs_append] at ih
    have hd : (d.drop i).flatMap entPut = entPut d[i] ++ (d.drop (i + 1)).flatMap entPut := by rw [List.drop_eq_getElem_cons hlt, List.flatMap_cons]
    rw [hd, ← List.append_assoc]
    refine tree_lim rfl rfl ?_
    have h : ((i : Int) < d.length) := by omega
    have hw := wrap64 (n := (i : Int) + 1) (by omega) (by omega)
    have hok := byteGs_ok (entPut d[i])
    have hb : 2 * (acc.length + (entPut d[i]).length) ≤ 281474976710656 ∧ acc.length + (entPut d[i]).length ≤ 281474976710656 := by omega
    have he : GV.g [GV.s d[i].1, GV.s d[i].2] = ent d[i] := rfl
    simp [-List.all_eq_true, h, hlt, he, hp, hok, hb, hw, ih]
theorem key6 (d : List Ent) (hf : few12 d = true) : TT.lim 46 [.l (d.map ent)] = some [.s (keyF d)] := by
  unfold few12 at hf
  rw [Bool.and_eq_true, decide_eq_true_iff] at hf
  have k := put7 d.length (by omega)
  have l1 := vput_len (n := d.length) (by omega)
  have w1 := wrapu64 (n := (d.length : Int)) (by omega) (by omega)
  have h11 : TT.lim 47 [.l (d.map ent), .i .i64 d.length, .i .i64 0, .l (byteGs (vput d.length))] = _ := loop11 d hf.1 hf.2 d.length 0 (vput d.length) (by omega) (by omega)
  rw [List.drop_zero] at h11
  have hb : 2 * (vput d.length).length ≤ 281474976710656 ∧ (vput d.length).length ≤ 281474976710656 := by omega
  have hok := byteGs_ok (vput d.length)
  have hfl := flat_len620 d hf.1
  have hc : (vput d.length).length + (List.flatMap entPut d).length ≤ 281474976710656 := by omega
  have hbg := bytesG_byteGs (vput d.length ++ d.flatMap entPut)
  refine fn_lim rfl rfl ?_ rfl
  unfold keyF
  generalize d.flatMap entPut = F at *
  simp [-List.all_eq_true, w1, k, hb, hok, h11, hc, hbg]
def utfChk (s : List UInt8) (lo hi : Int) : Int := if (s.length : Int) < lo then 13 else if hi < (s.length : Int) then 13 else if Lib.validD s = true then 0 else 11
theorem good20 (s : List UInt8) (h : s.length ≤ 140737488351232) : TT.lim 57 [.s s] = some [.b (Lib.validD s)] := by
  have h21 : TT.lim 58 [.s s] = some [.b (Lib.validD s)] := prim_lim (Ds := Ds) (k := 58) (f := validP) rfl (by simp only [validP]; rw [if_pos (by omega)])
  refine fn_lim rfl rfl ?_ rfl
  simp [h21]
theorem check19 (s : List UInt8) (lo hi : Int) (h : s.length ≤ 140737488351232) : TT.lim 56 [.s s, .i .i64 lo, .i .i64 hi] = some [.i .i64 (utfChk s lo hi)] := by
  have h20 := good20 s h
  refine fn_lim rfl rfl ?_ rfl
  unfold utfChk
  by_cases h1 : (s.length : Int) < lo
  · simp [h1]
  · by_cases h2 : hi < (s.length : Int)
    · simp [h1, h2]
    · cases hv : Lib.validD s <;> rw [hv] at h20 <;> simp [h1, h2, h20, hv]
def entChk (x : Ent) : Int := if utfChk x.1 1 64 ≠ 0 then utfChk x.1 1 64 else utfChk x.2 0 256
theorem entcheck18 (x : Ent) (h1 : x.1.length ≤ 140737488351232) (h2 : x.2.length ≤ 140737488351232) : TT.lim 55 [ent x] = some [.i .i64 (entChk x)] := by
  have k1 := check19 x.1 1 64 h1
  have k2 := check19 x.2 0 256 h2
  refine fn_lim rfl rfl ?_ rfl
  unfold entChk
  by_cases h : utfChk x.1 1 64 = 0
  · simp [k1, h, k2]
  · simp [k1, h]
def chkL : Option (List UInt8) → List Ent → Int
  | _, [] => 0
  | p, x :: xs => if entChk x ≠ 0 then entChk x else match p with
    | none => chkL (some x.1) xs
    | some k => if x.1 = k then 14 else if Op.bytesLess x.1 k = true then 7 else chkL (some x.1) xs
def tagged (r : Int) : List GV := if r = 0 then [.i .i64 1] else [.i .i64 0, .i .i64 r]
def prevK (d : List Ent) (i : Nat) : Option (List UInt8) := if i = 0 then none else (d[i - 1]?).map (·.1)
theorem loop17 (d : List Ent) (hd : Ents d) : ∀ m i : Nat, i + m = d.length → TT.lim 54 [.l (d.map ent), .i .i64 d.length, .i .i64 i] = some (tagged (chkL (prevK d i) (d.drop i)))
  | 0, i, hi => by
    have h0 : d.drop i = [] := List.drop_eq_nil_of_le (by omega)
    refine tree_lim rfl rfl ?_
    have h : ¬ ((i : Int) < d.length) := by omega
    simp [h, h0, chkL, tagged]
  | m + 1, i, hi => by
    have hlt : i < d.length := by omega
    have hx := hd.2 d[i] (List.getElem_mem hlt)
    have hp := entcheck18 d[i] hx.1 hx.2
    have ih : TT.lim 54 [.l (d.map ent), .i .i64 d.length, .i .i64 ((i : Int) + 1)] = _ := loop17 d hd m (i + 1) (by omega)
    have hpk : prevK d (i + 1) = some d[i].1 := by unfold prevK; rw [if_neg (by omega)]; simp [hlt]
    rw [hpk] at ih
    have hdr : d.drop i = d[i] :: d.drop (i + 1) := List.drop_eq_getElem_cons hlt
    rw [hdr]
    refine tree_lim rfl rfl ?_
    have h : ((i : Int) < d.length) := by omega
    have hw := wrap64 (n := (i : Int) + 1) (by omega) (by have := hd.1; omega)
    have he : GV.g [GV.s d[i].1, GV.s d[i].2] = ent d[i] := rfl
    by_cases h1 : entChk d[i] = 0
    rotate_left
    · simp [h, hlt, he, hp, h1, chkL, tagged]
    by_cases h0 : i = 0
    · subst h0
      simp only [Int.natCast_zero, Int.zero_add] at hw ih
      simp [h, hlt, he, hp, h1, chkL, prevK, hw]
      simpa using ih
    · have hi1 : i - 1 < d.length := by omega
      have hpk2 : prevK d i = some d[i - 1].1 := by unfold prevK; rw [if_neg h0]; simp [hi1]
      have hw2 := wrap64 (n := (i : Int) - 1) (by omega) (by have := hd.1; omega)
      have hi0 : ¬ ((i : Int) = 0) := by omega
      have hge : (0 : Int) ≤ (i : Int) - 1 := by omega
      have ht : ((i : Int) - 1).toNat = i - 1 := by omega
      have hnl : (1 : Int) ≤ (i : Int) := by omega
      rw [hpk2]
      by_cases h2 : d[i].1 = d[i - 1].1
      · have h2' : (d[i].1 = d[i - 1].1) = True := eq_true h2
        clear h2
        simp [h, hlt, he, hp, h1, hi0, h0, hw2, ht, hi1, h2', chkL, tagged, hnl]
      · cases h3 : Op.bytesLess d[i].1 d[i - 1].1 with
        | true => simp [h, hlt, he, hp, h1, hi0, h0, hw2, ht, hi1, h2, h3, chkL, tagged, hnl]
        | false => simp [h, hlt, he, hp, h1, hi0, h0, hw2, ht, hi1, h2, h3, chkL, hw, ih, hnl]
def descrChk (d : List Ent) : Int := if d.length = 0 then 12 else if 16 < d.length then 13 else chkL none d
theorem check16 (d : List Ent) (hd : Ents d) : TT.lim 53 [.l (d.map ent)] = some [.i .i64 (descrChk d)] := by
  have h17 : TT.lim 54 [.l (d.map ent), .i .i64 d.length, .i .i64 0] = _ := loop17 d hd d.length 0 (by omega)
  have hpk : prevK d 0 = none := rfl
  rw [hpk, List.drop_zero] at h17
  have w1 := wrapu64 (n := (d.length : Int)) (by omega) (by have := hd.1; omega)
  refine fn_lim rfl rfl ?_ rfl
  unfold descrChk
  by_cases h0 : d.length = 0
  · have h0' : (d.length : Int) = 0 := by omega
    have : d = [] := List.eq_nil_of_length_eq_zero h0
    subst this
    simp [IntKind.wrap, IntKind.signed]
  · have h0' : ¬ (d.length : Int) = 0 := by omega
    by_cases h1 : 16 < d.length
    · have h1' : (16 : Int) < (d.length : Int) := by omega
      simp [w1, h0, h1, h0', h1']
    · have h1' : ¬ (16 : Int) < (d.length : Int) := by omega
      by_cases h2 : chkL none d = 0
      · simp only [tagged, h2, if_true] at h17
        simp [w1, h0, h1, h0', h1', h17, h2]
      · simp only [tagged, h2, if_false] at h17
        simp [w1, h0, h1, h0', h1', h17]
def rowChk (r : Row) : Int := if descrChk r.1 ≠ 0 then descrChk r.1 else if r.2 = 0 then 18 else 0
theorem check15 (r : Row) (hd : Ents r.1) : TT.lim 52 [row r] = some [.i .i64 (rowChk r)] := by
  have k := check16 r.1 hd
  refine fn_lim rfl rfl ?_ rfl
  unfold rowChk
  by_cases h : descrChk r.1 = 0
  · by_cases h2 : r.2 = 0
    · simp [k, h, h2]
    · simp [k, h, h2]
  · simp [k, h]
def fewR (long : Bool) (r : Row) : Bool := decide (r.1.length ≤ 18) && few12 r.1 && (!long || decide ((keyF r.1).length ≤ 100))
theorem loop3 (l : List Row) (hl : Rows l) : ∀ m i : Nat, i + m = l.length → TT.lim 43 [.l (l.map row), .i .i64 l.length, .i .i64 i] = some (if (l.drop i).all (fewR (decide (40 < l.length))) = true then [.i .i64 1, .l (l.map row)] else [.i .i64 0])
  | 0, i, hi => by
    have h0 : l.drop i = [] := List.drop_eq_nil_of_le (by omega)
    refine tree_lim rfl rfl ?_
    have h : ¬ ((i : Int) < l.length) := by omega
    simp [h, h0]
  | m + 1, i, hi => by
    have hlt : i < l.length := by omega
    have hr := hl.2 l[i] (List.getElem_mem hlt)
    have ih : TT.lim 43 [.l (l.map row), .i .i64 l.length, .i .i64 ((i : Int) + 1)] = _ := loop3 l hl m (i + 1) (by omega)
    have hda : (l.drop i).all (fewR (decide (40 < l.length))) = (fewR (decide (40 < l.length)) l[i] && (l.drop (i + 1)).all (fewR (decide (40 < l.length)))) := by rw [List.drop_eq_getElem_cons hlt, List.all_cons]
    rw [hda]
    refine tree_lim rfl rfl ?_
    have h : ((i : Int) < l.length) := by omega
    have hw := wrap64 (n := (i : Int) + 1) (by omega) (by have := hl.1; omega)
    have h4 := few4 l[i].1 hr.1
    by_cases h1 : 18 < l[i].1.length
    · have h1' : (18 : Int) < (l[i].1.length : Int) := by omega
      have : fewR (decide (40 < l.length)) l[i] = false := by unfold fewR; simp; omega
      rw [this]
      simp [h, hlt, h1']
    have h1' : ¬ (18 : Int) < (l[i].1.length : Int) := by omega
    have h1d : l[i].1.length ≤ 18 := by omega
    cases hf : few12 l[i].1 with
    | false =>
      rw [hf] at h4
      have : fewR (decide (40 < l.length)) l[i] = false := by unfold fewR; simp [hf]
      rw [this]
      simp [h, hlt, h1', h4]
    | true =>
      rw [hf] at h4
      have k6 := key6 l[i].1 hf
      by_cases h2 : 40 < l.length
      · have h2' : (40 : Int) < (l.length : Int) := by omega
        by_cases h3 : 100 < (keyF l[i].1).length
        · have h3' : (100 : Int) < ((keyF l[i].1).length : Int) := by omega
          have : fewR (decide (40 < l.length)) l[i] = false := by unfold fewR; simp [h2]; omega
          rw [this]
          simp [h, hlt, h1', h4, h2', k6, h3']
        · have h3' : ¬ (100 : Int) < ((keyF l[i].1).length : Int) := by omega
          have : fewR (decide (40 < l.length)) l[i] = true := by unfold fewR; simp [h2, hf, h1d]; omega
          rw [this, Bool.true_and]
          simp [h, hlt, h1', h4, h2', k6, h3', hw, ih]
      · have h2' : ¬ (40 : Int) < (l.length : Int) := by omega
        have : fewR (decide (40 < l.length)) l[i] = true := by unfold fewR; simp [h2, hf, h1d]
        rw [this, Bool.true_and]
        simp [h, hlt, h1', h4, h2', hw, ih]
def few13 (l : List Row) : Bool := l.all (fewR (decide (40 < l.length))) && decide (l.length ≤ 300)
theorem few2 (l : List Row) (hl : Rows l) : TT.lim 42 [.l (l.map row)] = some [.b (few13 l)] := by
  refine fn_lim rfl rfl ?_ rfl
  have h3 : TT.lim 43 [.l (l.map row), .i .i64 l.length, .i .i64 0] = _ := loop3 l hl l.length 0 (by omega)
  rw [List.drop_zero] at h3
  unfold few13
  cases hc : l.all (fewR (decide (40 < l.length))) with
  | false => rw [hc] at h3; simp [h3]
  | true =>
    rw [hc] at h3; simp only [if_true] at h3
    have : (decide ((l.length : Int) ≤ 300)) = decide (l.length ≤ 300) := by rw [Bool.eq_iff_iff]; simp; omega
    simp [h3, this]
theorem few13_few {l : List Row} (h : few13 l = true) : ∀ r ∈ l, few12 r.1 = true := by
  unfold few13 at h
  rw [Bool.and_eq_true] at h
  intro r hr
  have := List.all_eq_true.1 h.1 r hr
  unfold fewR at this
  simp only [Bool.and_eq_true] at this
  exact this.1.2
abbrev K (r : Row) : List UInt8 := keyF r.1
theorem eqGs_ent (x y : Ent) : eqGs [1, 1] [.s x.1, .s x.2] [.s y.1, .s y.2] = some (decide (x = y)) := by
  simp only [eqGs, Option.map_some, Bool.and_true]
  congr 1
  rw [Bool.eq_iff_iff]
  simp [Prod.ext_iff]
theorem bl_iff (a b : List UInt8) : Op.bytesLess a b = true ↔ a < b := by rw [bytesLess_lt]; simp
theorem bl_not (a b : List UInt8) : Op.bytesLess a b = false ↔ ¬ a < b := by rw [bytesLess_lt]; simp
/-- Rows whose keys rise. -/
def Rise (l : List Row) : Prop := l.Pairwise fun a b => K a < K b
theorem ents_of {cs : List GV} {r0 : List GV} (h : GTy.hasL [.list true [.str, .str], .int .u64] cs) : ∃ r : Row, (Ents r.1 ∧ 0 ≤ r.2 ∧ r.2 < 18446744073709551616) ∧ GV.g cs = row r := by
  obtain ⟨g, l, rfl, h1, h⟩ := hasL_cons h
  obtain ⟨n, l, rfl, h2, h⟩ := hasL_cons h
  obtain rfl := hasL_nil h
  obtain ⟨n, rfl, n1, n2⟩ := has_u64 h2
  obtain ⟨xs, rfl, h3, h4⟩ := has_list h1
  obtain ⟨d, hd, rfl⟩ : ∃ d : List Ent, (∀ x ∈ d, x.1.length ≤ 140737488351232 ∧ x.2.length ≤ 140737488351232) ∧ xs = d.map ent := list_map fun x hx => by
    obtain ⟨k1, k2⟩ := h4 x hx
    cases x <;> simp [GV.scalar] at k2
    obtain ⟨a, l, e1, a1, k1⟩ := hasL_cons k1
    obtain ⟨b, l, rfl, b1, k1⟩ := hasL_cons k1
    obtain rfl := hasL_nil k1
    obtain ⟨s, rfl, s1⟩ := has_str a1
    obtain ⟨u, rfl, u1⟩ := has_str b1
    simp only [cells_g] at e1
    subst e1
    exact ⟨(s, u), ⟨Nat.le_trans s1 (by decide), Nat.le_trans u1 (by decide)⟩, rfl⟩
  exact ⟨(d, n), ⟨⟨by have := Nat.le_trans h3 (by decide : reachBytes ≤ 140737488351232); simpa using this, hd⟩, n1, n2⟩, rfl⟩
abbrev rowsTy : List GTy := [.list true [.list true [.str, .str], .int .u64]]
theorem rows_of {g : GV} (h : (GTy.list true [.list true [.str, .str], .int .u64]).has g) : ∃ l : List Row, Rows l ∧ g = .l (l.map row) := by
  obtain ⟨xs, rfl, h1, h2⟩ := has_list h
  obtain ⟨l, hl, rfl⟩ : ∃ l : List Row, (∀ r ∈ l, Ents r.1 ∧ 0 ≤ r.2 ∧ r.2 < 18446744073709551616) ∧ xs = l.map row := list_map fun x hx => by
    obtain ⟨k1, k2⟩ := h2 x hx
    cases x <;> simp [GV.scalar] at k2
    obtain ⟨r, hr, e⟩ := ents_of (r0 := []) k1
    exact ⟨r, hr, e⟩
  exact ⟨l, ⟨by have := Nat.le_trans h1 (by decide : reachBytes ≤ 140737488351232); simpa using this, hl⟩, rfl⟩
def chkR : Option (List UInt8) → List Row → Int
  | _, [] => 0
  | p, r :: rs => if rowChk r ≠ 0 then rowChk r else match p with
    | none => chkR (some (K r)) rs
    | some k => if K r = k then 14 else if Op.bytesLess (K r) k = true then 7 else chkR (some (K r)) rs
theorem loop38 (t : List Row) (ht : Rows t) (hf : ∀ r ∈ t, few12 r.1 = true) : ∀ (m i : Nat) (p : List UInt8), i + m = t.length →
    TT.lim 51 [.s p, .l (t.map row), .i .i64 t.length, .i .i64 i] = some (tagged (chkR (if i = 0 then none else some p) (t.drop i)))
  | 0, i, p, hi => by
    have h0 : t.drop i = [] := List.drop_eq_nil_of_le (by omega)
    refine tree_lim rfl rfl ?_
    have h : ¬ ((i : Int) < t.length) := by omega
    simp [h, h0, chkR, tagged]
  | m + 1, i, p, hi => by
    have hlt : i < t.length := by omega
    have hr := ht.2 t[i] (List.getElem_mem hlt)
    have k15 := check15 t[i] hr.1
    have k6 := key6 t[i].1 (hf _ (List.getElem_mem hlt))
    have hrow : GV.g [.l (t[i].1.map ent), .i .u64 t[i].2] = row t[i] := rfl
    have ih : TT.lim 51 [.s (keyF t[i].1), .l (t.map row), .i .i64 t.length, .i .i64 ((i : Int) + 1)] = _ := loop38 t ht hf m (i + 1) (keyF t[i].1) (by omega)
    rw [if_neg (by omega)] at ih
    rw [List.drop_eq_getElem_cons hlt]
    refine tree_lim rfl rfl ?_
    have h : ((i : Int) < t.length) := by omega
    have hw := wrap64 (n := (i : Int) + 1) (by omega) (by have := ht.1; omega)
    by_cases h1 : rowChk t[i] = 0
    rotate_left
    · simp [-List.getElem_cons_drop, h, hlt, hrow, k15, h1, chkR, tagged]
    by_cases h0 : i = 0
    · subst h0
      simp only [Int.natCast_zero, Int.zero_add] at hw ih
      simp [-List.getElem_cons_drop, h, hlt, hrow, k15, h1, k6, hw, chkR]
      have hn : (0 : Int) < (t.length : Int) := by omega
      simpa using ih
    · have hi0 : 0 < i := by omega
      by_cases h2 : keyF t[i].1 = p
      · have h2' : (keyF t[i].1 = p) = True := eq_true h2
        clear h2
        simp [-List.getElem_cons_drop, h, hlt, hrow, k15, h1, k6, hi0, h0, h2', chkR, tagged]
      · cases h3 : Op.bytesLess (keyF t[i].1) p with
        | true => simp [-List.getElem_cons_drop, h, hlt, hrow, k15, h1, k6, hi0, h0, h2, h3, chkR, tagged]
        | false => simp [-List.getElem_cons_drop, h, hlt, hrow, k15, h1, k6, hi0, h0, h2, h3, hw, ih, chkR]
def checkT (t : List Row) : Int := if 256 < t.length then 13 else chkR none t
theorem check37 (t : List Row) (ht : Rows t) (hf : ∀ r ∈ t, few12 r.1 = true) : TT.lim 50 [.l (t.map row)] = some [.i .i64 (checkT t)] := by
  have h38 : TT.lim 51 [.s [], .l (t.map row), .i .i64 t.length, .i .i64 0] = _ := loop38 t ht hf t.length 0 [] (by omega)
  rw [if_pos rfl, List.drop_zero] at h38
  refine fn_lim rfl rfl ?_ rfl
  unfold checkT
  by_cases h1 : 256 < t.length
  · have h1' : (256 : Int) < (t.length : Int) := by omega
    simp [h1, h1']
  · have h1' : ¬ (256 : Int) < (t.length : Int) := by omega
    by_cases h2 : chkR none t = 0
    · simp only [tagged, h2, if_true] at h38
      simp [h1, h1', h38, h2]
    · simp only [tagged, h2, if_false] at h38
      simp [h1, h1', h38, h2]
theorem chkR_rise : ∀ {t : List Row} (p : Option (List UInt8)), Rise t → (∀ r ∈ t, rowChk r = 0) → (∀ k, p = some k → ∀ r ∈ t, k < K r) → chkR p t = 0
  | [], p, _, _, _ => by cases p <;> rfl
  | r :: t, p, ht, hc, hp => by
    have ht' := List.pairwise_cons.1 ht
    have ih := chkR_rise (t := t) (some (K r)) ht'.2 (fun x hx => hc x (by simp [hx])) (fun k hk x hx => by cases hk; exact ht'.1 x hx)
    unfold chkR
    rw [if_neg (by simp [hc r (by simp)])]
    cases p with
    | none => exact ih
    | some k =>
      have hk := hp k rfl r (by simp)
      have h1 : ¬ K r = k := fun e => by rw [e] at hk; exact List.lt_irrefl _ hk
      have h2 : ¬ Op.bytesLess (K r) k = true := fun e => List.lt_irrefl _ (List.lt_trans hk ((bl_iff _ _).1 e))
      simp only
      rw [if_neg h1, if_neg h2]
      exact ih
def val : List Row → List UInt8 → Int
  | [], _ => 0
  | r :: rs, k => if K r = k then r.2 else val rs k
def Pos (t : List Row) : Prop := ∀ r ∈ t, 0 < r.2 ∧ r.2 < 18446744073709551616
theorem few40 {d : List Ent} (h : few12 d = true) : d.length ≤ 40 := by
  unfold few12 at h; simp at h; omega
def Few (t : List Row) : Prop := ∀ r ∈ t, few12 r.1 = true
def Ok (t : List Row) : Prop := t.length ≤ 256 ∧ Rise t ∧ ∀ r ∈ t, rowChk r = 0
theorem chkR_inv : ∀ {t : List Row} (p : Option (List UInt8)), chkR p t = 0 → Rise t ∧ (∀ r ∈ t, rowChk r = 0) ∧ ∀ k, p = some k → ∀ r ∈ t, k < K r
  | [], p, _ => ⟨List.Pairwise.nil, by simp, by simp⟩
  | r :: t, p, h => by
    unfold chkR at h
    by_cases h1 : rowChk r = 0
    rotate_left
    · rw [if_pos h1] at h; exact absurd h h1
    rw [if_neg (by simp [h1])] at h
    have main : ∀ (h : chkR (some (K r)) t = 0), Rise (r :: t) ∧ ∀ x ∈ r :: t, rowChk x = 0 := by
      intro h
      obtain ⟨i1, i2, i3⟩ := chkR_inv (some (K r)) h
      refine ⟨List.Pairwise.cons (i3 _ rfl) i1, fun x hx => ?_⟩
      rcases List.mem_cons.1 hx with rfl | hx
      · exact h1
      · exact i2 x hx
    cases p with
    | none => exact ⟨(main h).1, (main h).2, by simp⟩
    | some k =>
      simp only at h
      split at h
      · cases h
      next h2 =>
      split at h
      · cases h
      next h3 =>
      refine ⟨(main h).1, (main h).2, ?_⟩
      rintro _ ⟨⟩ x hx
      have hk : k < K r := by
        rcases List.le_iff_lt_or_eq.1 (List.not_lt.1 fun e => h3 ((bl_iff _ _).2 e)) with e | e
        · exact e
        · exact absurd e.symm h2
      rcases List.mem_cons.1 hx with rfl | hx
      · exact hk
      · exact List.lt_trans hk ((List.pairwise_cons.1 (main h).1).1 x hx)
theorem checkT_iff (t : List Row) : checkT t = 0 ↔ Ok t := by
  unfold checkT Ok
  constructor
  · intro h
    split at h
    · cases h
    · obtain ⟨h1, h2, _⟩ := chkR_inv none h
      exact ⟨by omega, h1, h2⟩
  · rintro ⟨h1, h2, h3⟩
    rw [if_neg (by omega)]
    exact chkR_rise none h2 h3 (by simp)
theorem rowChk_iff (r : Row) : rowChk r = 0 ↔ descrChk r.1 = 0 ∧ r.2 ≠ 0 := by
  unfold rowChk
  by_cases h : descrChk r.1 = 0
  · simp [h]
  · simp [h]
structure Tb (t : List Row) : Prop where
  ok : Ok t
  rows : Rows t
  few : Few t
theorem Tb.pos {t : List Row} (h : Tb t) : Pos t := fun r hr => by
  have h1 := ((rowChk_iff r).1 (h.ok.2.2 r hr)).2
  have h2 := (h.rows.2 r hr).2
  omega
structure GoodT (t : List Row) : Prop where
  len : t.length ≤ 300
  few : Few t
  rows : Rows t
theorem Tb.good {t : List Row} (h : Tb t) : GoodT t := ⟨Nat.le_trans h.ok.1 (by decide), h.few, h.rows⟩
theorem good_of {l : List Row} (hl : Rows l) (h : few13 l = true) : GoodT l := by
  refine ⟨?_, fun r hr => few13_few h r hr, hl⟩
  unfold few13 at h
  rw [Bool.and_eq_true, decide_eq_true_iff] at h
  exact h.2
def contOut : Option (Int × Int × Int) → List GV
  | some (a, b, c) => [.i .i64 1, .i .i64 a, .i .i64 b, .i .i64 c]
  | none => [.i .i64 0]
theorem end69 (s : List UInt8) (size n least : Int) : TT.lim 75 [.s s, .i .i64 size, .i .i64 n, .i .i64 least, .i .i64 size] = some (contOut (some (size, n, least))) := by
  refine tree_lim rfl rfl ?_
  simp [contOut]
def atI (s : List UInt8) (k : Nat) : Int := ((s.getD k 0).toNat : Int)
theorem atI_b (s : List UInt8) (k : Nat) : 0 ≤ atI s k ∧ atI s k < 256 := by unfold atI; have := (s.getD k 0).toNat_lt; omega
theorem at_some {s : List UInt8} {k : Nat} (h : k < s.length) : s[k]? = some (s.getD k 0) := by simp [List.getD, h]
theorem step69 (s : List UInt8) (size n least : Int) (i : Nat) (hi : (i : Int) < size) (hl : i < s.length) (h0 : 0 ≤ n) (h1 : n < 1000000000000) (hs : size < 1000) :
    ∀ out, (if atI s i < 128 then some (contOut none) else if 192 ≤ atI s i then some (contOut none) else TT.lim 75 [.s s, .i .i64 size, .i .i64 (64 * n + atI s i - 128), .i .i64 least, .i .i64 ((i : Int) + 1)]) = some out →
    TT.lim 75 [.s s, .i .i64 size, .i .i64 n, .i .i64 least, .i .i64 i] = some out := by
  intro out h
  have hb := atI_b s i
  have hx : (s[i]?).bind (fun c => some (GV.i .u8 c.toNat)) = some (.i .u8 (atI s i)) := by rw [at_some hl]; rfl
  generalize atI s i = x at *
  have w1 := wrap64 (n := x) (by omega) (by omega)
  refine tree_lim rfl rfl ?_
  by_cases c1 : x < 128
  · rw [if_pos c1] at h
    rw [← h]
    simp [hi, hx, w1, c1, contOut]
  rw [if_neg c1] at h
  by_cases c2 : 192 ≤ x
  · rw [if_pos c2] at h
    rw [← h]
    simp [hi, hx, w1, c1, c2, contOut]
  rw [if_neg c2] at h
  have w2 := wrap64 (n := 64 * n) (by omega) (by omega)
  have w3 := wrap64 (n := 64 * n + x) (by omega) (by omega)
  have w4 := wrap64 (n := 64 * n + x - 128) (by omega) (by omega)
  have w5 := wrap64 (n := (i : Int) + 1) (by omega) (by omega)
  simp [hi, hx, w1, c1, c2, w2, w3, w4, w5, h]
def finI (v least size : Int) : Int := if v < least then 0 else if 1114111 < v then 0 else if 55296 ≤ v ∧ v < 57344 then 0 else size
abbrev badI (x : Int) : Prop := x < 128 ∨ 192 ≤ x
def firstI (n b0 b1 b2 b3 : Int) : Int :=
  if n = 0 then 0 else if b0 < 128 then 1 else if b0 < 192 then 0
  else if b0 < 224 then (if n < 2 then 0 else if badI b1 then 0 else finI (64 * (b0 - 192) + b1 - 128) 128 2)
  else if b0 < 240 then (if n < 3 then 0 else if badI b1 ∨ badI b2 then 0 else finI (64 * (64 * (b0 - 224) + b1 - 128) + b2 - 128) 2048 3)
  else if b0 < 248 then (if n < 4 then 0 else if badI b1 ∨ badI b2 ∨ badI b3 then 0 else finI (64 * (64 * (64 * (b0 - 240) + b1 - 128) + b2 - 128) + b3 - 128) 65536 4)
  else 0
/-- What the loop comes to: two, three, four bytes. -/
theorem loop2 (s : List UInt8) (n least : Int) (hl : 2 ≤ s.length) (h0 : 0 ≤ n) (h1 : n < 64) :
    TT.lim 75 [.s s, .i .i64 2, .i .i64 n, .i .i64 least, .i .i64 1] = some (contOut (if badI (atI s 1) then none else some (2, 64 * n + atI s 1 - 128, least))) := by
  refine step69 s 2 n least 1 (by decide) (by omega) h0 (by omega) (by decide) _ ?_
  have e := end69 s 2 (64 * n + atI s 1 - 128) least
  by_cases c : badI (atI s 1)
  · rw [if_pos c]
    rcases c with c | c
    · exact if_pos c
    · rw [if_neg (by omega)]; exact if_pos c
  · rw [if_neg c, if_neg (fun h => c (.inl h)), if_neg (fun h => c (.inr h))]; exact e
theorem loop3b (s : List UInt8) (n least : Int) (hl : 3 ≤ s.length) (h0 : 0 ≤ n) (h1 : n < 64) :
    TT.lim 75 [.s s, .i .i64 3, .i .i64 n, .i .i64 least, .i .i64 1] = some (contOut (if badI (atI s 1) ∨ badI (atI s 2) then none else some (3, 64 * (64 * n + atI s 1 - 128) + atI s 2 - 128, least))) := by
  have a1 := atI_b s 1
  refine step69 s 3 n least 1 (by decide) (by omega) h0 (by omega) (by decide) _ ?_
  by_cases c : badI (atI s 1)
  · rw [if_pos (show badI (atI s 1) ∨ badI (atI s 2) from .inl c)]
    rcases c with c | c
    · exact if_pos c
    · rw [if_neg (by omega)]; exact if_pos c
  · rw [if_neg (fun h => c (.inl h)), if_neg (fun h => c (.inr h))]
    have c1 : 128 ≤ atI s 1 := by omega
    refine step69 s 3 _ least 2 (by decide) (by omega) (by show 0 ≤ 64 * n + atI s 1 - 128; omega) (by show 64 * n + atI s 1 - 128 < _; omega) (by decide) _ ?_
    have e := end69 s 3 (64 * (64 * n + atI s 1 - 128) + atI s 2 - 128) least
    by_cases d : badI (atI s 2)
    · rw [if_pos (show badI (atI s 1) ∨ badI (atI s 2) from .inr d)]
      rcases d with d | d
      · exact if_pos d
      · rw [if_neg (by omega)]; exact if_pos d
    · rw [if_neg (show ¬ (badI (atI s 1) ∨ badI (atI s 2)) by simp [c, d]), if_neg (fun h => d (.inl h)), if_neg (fun h => d (.inr h))]; exact e
theorem loop4 (s : List UInt8) (n least : Int) (hl : 4 ≤ s.length) (h0 : 0 ≤ n) (h1 : n < 64) :
    TT.lim 75 [.s s, .i .i64 4, .i .i64 n, .i .i64 least, .i .i64 1] = some (contOut (if badI (atI s 1) ∨ badI (atI s 2) ∨ badI (atI s 3) then none else some (4, 64 * (64 * (64 * n + atI s 1 - 128) + atI s 2 - 128) + atI s 3 - 128, least))) := by
  have a1 := atI_b s 1
  have a2 := atI_b s 2
  refine step69 s 4 n least 1 (by decide) (by omega) h0 (by omega) (by decide) _ ?_
  by_cases c : badI (atI s 1)
  · rw [if_pos (show badI (atI s 1) ∨ badI (atI s 2) ∨ badI (atI s 3) from .inl c)]
    rcases c with c | c
    · exact if_pos c
    · rw [if_neg (by omega)]; exact if_pos c
  · rw [if_neg (fun h => c (.inl h)), if_neg (fun h => c (.inr h))]
    have c1 : 128 ≤ atI s 1 := by omega
    refine step69 s 4 _ least 2 (by decide) (by omega) (by show 0 ≤ 64 * n + atI s 1 - 128; omega) (by show 64 * n + atI s 1 - 128 < _; omega) (by decide) _ ?_
    by_cases d : badI (atI s 2)
    · rw [if_pos (show badI (atI s 1) ∨ badI (atI s 2) ∨ badI (atI s 3) from .inr (.inl d))]
      rcases d with d | d
      · exact if_pos d
      · rw [if_neg (by omega)]; exact if_pos d
    · rw [if_neg (fun h => d (.inl h)), if_neg (fun h => d (.inr h))]
      have d1 : 128 ≤ atI s 2 := by omega
      refine step69 s 4 _ least 3 (by decide) (by omega) (by show 0 ≤ 64 * (64 * n + atI s 1 - 128) + atI s 2 - 128; omega) (by show 64 * (64 * n + atI s 1 - 128) + atI s 2 - 128 < _; omega) (by decide) _ ?_
      have e := end69 s 4 (64 * (64 * (64 * n + atI s 1 - 128) + atI s 2 - 128) + atI s 3 - 128) least
      by_cases f : badI (atI s 3)
      · rw [if_pos (show badI (atI s 1) ∨ badI (atI s 2) ∨ badI (atI s 3) from .inr (.inr f))]
        rcases f with f | f
        · exact if_pos f
        · rw [if_neg (by omega)]; exact if_pos f
      · rw [if_neg (show ¬ (badI (atI s 1) ∨ badI (atI s 2) ∨ badI (atI s 3)) by simp [c, d, f]), if_neg (fun h => f (.inl h)), if_neg (fun h => f (.inr h))]; exact e
def firstF (s : List UInt8) : Int := firstI s.length (atI s 0) (atI s 1) (atI s 2) (atI s 3)
theorem contOut_b {c : Prop} [Decidable c] (x : Int × Int × Int) (h : c) : contOut (if c then none else some x) = [.i .i64 0] := by rw [if_pos h]; rfl
theorem contOut_g {c : Prop} [Decidable c] (a b d : Int) (h : ¬ c) : contOut (if c then none else some (a, b, d)) = [.i .i64 1, .i .i64 a, .i .i64 b, .i .i64 d] := by rw [if_neg h]; rfl
set_option maxHeartbeats 4000000 in
theorem first68 (s : List UInt8) (hl : s.length ≤ 140737488351232) : TT.lim 74 [.s s] = some [.i .i64 (firstF s)] := by
  have hb := atI_b s 0
  have k2 := fun hl h0 h1 => loop2 s (atI s 0 - 192) 128 hl h0 h1
  have k3 := fun hl h0 h1 => loop3b s (atI s 0 - 224) 2048 hl h0 h1
  have k4 := fun hl h0 h1 => loop4 s (atI s 0 - 240) 65536 hl h0 h1
  unfold firstF firstI
  by_cases hn : s.length = 0
  · refine fn_lim rfl rfl ?_ rfl
    simp [hn]
  have hn' : ¬ (s.length : Int) = 0 := by omega
  have hne : ¬ s = [] := fun e => hn (by rw [e]; rfl)
  have hx : (s[0]?).bind (fun c => some (GV.i .u8 c.toNat)) = some (.i .u8 (atI s 0)) := by rw [at_some (by omega)]; rfl
  have w1 := wrap64 (n := atI s 0) (by omega) (by omega)
  rw [if_neg hn']
  generalize atI s 0 = x at *
  generalize atI s 1 = b1 at *
  generalize atI s 2 = b2 at *
  generalize atI s 3 = b3 at *
  by_cases c0 : x < 128
  · refine fn_lim rfl rfl ?_ rfl
    simp [hn', hne, hx, w1, c0]
  by_cases c1 : x < 192
  · have d1 : ¬ 192 ≤ x := by omega
    have d2 : ¬ 224 ≤ x := by omega
    have d3 : ¬ 240 ≤ x := by omega
    refine fn_lim rfl rfl ?_ rfl
    simp [hn', hne, hx, w1, c0, c1, d1, d2, d3]
  have d1 : 192 ≤ x := by omega
  have w2 := wrap64 (n := x - 192) (by omega) (by omega)
  by_cases c2 : x < 224
  · rw [if_neg c0, if_neg c1, if_pos c2]
    by_cases n2 : (s.length : Int) < 2
    · refine fn_lim rfl rfl ?_ rfl
      simp [hn', hne, hx, w1, c0, d1, c2, w2, n2]
    rw [if_neg n2]
    have k := k2 (by omega) (by omega) (by omega)
    by_cases e1 : badI b1
    · rw [contOut_b _ e1] at k
      rw [if_pos e1]
      refine fn_lim rfl rfl ?_ rfl
      simp [hn', hne, hx, w1, c0, d1, c2, w2, n2, k]
    rw [contOut_g _ _ _ e1] at k
    rw [if_neg e1]
    generalize 64 * (x - 192) + b1 - 128 = v at *
    unfold finI
    by_cases f1 : v < 128
    · refine fn_lim rfl rfl ?_ rfl
      simp [hn', hne, hx, w1, c0, d1, c2, w2, n2, k, f1]
    by_cases f2 : 1114111 < v
    · refine fn_lim rfl rfl ?_ rfl
      simp [hn', hne, hx, w1, c0, d1, c2, w2, n2, k, f1, f2]
    by_cases f3 : 55296 ≤ v
    · by_cases f4 : v < 57344
      · refine fn_lim rfl rfl ?_ rfl
        simp [hn', hne, hx, w1, c0, d1, c2, w2, n2, k, f1, f2, f3, f4]
      · refine fn_lim rfl rfl ?_ rfl
        simp [hn', hne, hx, w1, c0, d1, c2, w2, n2, k, f1, f2, f3, f4]
    · refine fn_lim rfl rfl ?_ rfl
      simp [hn', hne, hx, w1, c0, d1, c2, w2, n2, k, f1, f2, f3]
  have d2 : 224 ≤ x := by omega
  have w3 := wrap64 (n := x - 224) (by omega) (by omega)
  by_cases c3 : x < 240
  · rw [if_neg c0, if_neg c1, if_neg c2, if_pos c3]
    by_cases n2 : (s.length : Int) < 3
    · refine fn_lim rfl rfl ?_ rfl
      simp [hn', hne, hx, w1, c0, d1, c2, d2, c3, w3, n2]
    rw [if_neg n2]
    have k := k3 (by omega) (by omega) (by omega)
    by_cases e1 : badI b1 ∨ badI b2
    · rw [contOut_b _ e1] at k
      rw [if_pos e1]
      refine fn_lim rfl rfl ?_ rfl
      simp [hn', hne, hx, w1, c0, d1, c2, d2, c3, w3, n2, k]
    rw [contOut_g _ _ _ e1] at k
    rw [if_neg e1]
    generalize 64 * (64 * (x - 224) + b1 - 128) + b2 - 128 = v at *
    unfold finI
    by_cases f1 : v < 2048
    · refine fn_lim rfl rfl ?_ rfl
      simp [hn', hne, hx, w1, c0, d1, c2, d2, c3, w3, n2, k, f1]
    by_cases f2 : 1114111 < v
    · refine fn_lim rfl rfl ?_ rfl
      simp [hn', hne, hx, w1, c0, d1, c2, d2, c3, w3, n2, k, f1, f2]
    by_cases f3 : 55296 ≤ v
    · by_cases f4 : v < 57344
      · refine fn_lim rfl rfl ?_ rfl
        simp [hn', hne, hx, w1, c0, d1, c2, d2, c3, w3, n2, k, f1, f2, f3, f4]
      · refine fn_lim rfl rfl ?_ rfl
        simp [hn', hne, hx, w1, c0, d1, c2, d2, c3, w3, n2, k, f1, f2, f3, f4]
    · refine fn_lim rfl rfl ?_ rfl
      simp [hn', hne, hx, w1, c0, d1, c2, d2, c3, w3, n2, k, f1, f2, f3]
  have d3 : 240 ≤ x := by omega
  have w4 := wrap64 (n := x - 240) (by omega) (by omega)
  by_cases c4 : x < 248
  · rw [if_neg c0, if_neg c1, if_neg c2, if_neg c3, if_pos c4]
    by_cases n2 : (s.length : Int) < 4
    · refine fn_lim rfl rfl ?_ rfl
      simp [hn', hne, hx, w1, c0, d1, c2, d2, c3, d3, c4, w4, n2]
    rw [if_neg n2]
    have k := k4 (by omega) (by omega) (by omega)
    by_cases e1 : badI b1 ∨ badI b2 ∨ badI b3
    · rw [contOut_b _ e1] at k
      rw [if_pos e1]
      refine fn_lim rfl rfl ?_ rfl
      simp [hn', hne, hx, w1, c0, d1, c2, d2, c3, d3, c4, w4, n2, k]
    rw [contOut_g _ _ _ e1] at k
    rw [if_neg e1]
    generalize 64 * (64 * (64 * (x - 240) + b1 - 128) + b2 - 128) + b3 - 128 = v at *
    unfold finI
    by_cases f1 : v < 65536
    · refine fn_lim rfl rfl ?_ rfl
      simp [hn', hne, hx, w1, c0, d1, c2, d2, c3, d3, c4, w4, n2, k, f1]
    by_cases f2 : 1114111 < v
    · refine fn_lim rfl rfl ?_ rfl
      simp [hn', hne, hx, w1, c0, d1, c2, d2, c3, d3, c4, w4, n2, k, f1, f2]
    by_cases f3 : 55296 ≤ v
    · by_cases f4 : v < 57344
      · refine fn_lim rfl rfl ?_ rfl
        simp [hn', hne, hx, w1, c0, d1, c2, d2, c3, d3, c4, w4, n2, k, f1, f2, f3, f4]
      · refine fn_lim rfl rfl ?_ rfl
        simp [hn', hne, hx, w1, c0, d1, c2, d2, c3, d3, c4, w4, n2, k, f1, f2, f3, f4]
    · refine fn_lim rfl rfl ?_ rfl
      simp [hn', hne, hx, w1, c0, d1, c2, d2, c3, d3, c4, w4, n2, k, f1, f2, f3]
  · refine fn_lim rfl rfl ?_ rfl
    simp [hn', hne, hx, w1, c0, c1, d1, c2, d2, c3, d3, c4]
set_option maxHeartbeats 8000000 in
/-- It is the model's own way of decoding. -/
theorem firstI_N (n b0 b1 b2 b3 : Nat) (hn : 0 < n) (h0 : b0 < 256) (h1 : b1 < 256) (h2 : b2 < 256) (h3 : b3 < 256) : firstI n b0 b1 b2 b3 = if (Lib.decodeN n b0 b1 b2 b3).1 = 65533 ∧ (Lib.decodeN n b0 b1 b2 b3).2 = 1 then 0 else ((Lib.decodeN n b0 b1 b2 b3).2 : Nat) := by
  generalize hd : Lib.decodeN n b0 b1 b2 b3 = d
  unfold Lib.decodeN at hd
  unfold firstI finI
  rw [if_neg (by omega)]
  repeat' split at hd
  all_goals subst hd
  all_goals dsimp only
  · rw [if_pos (by omega), if_neg (by omega)]; rfl
  all_goals rw [if_neg (show ¬ (b0 : Int) < 128 by omega)]
  all_goals first | rw [if_neg (by omega)] | rw [if_pos (show True ∧ True from ⟨trivial, trivial⟩)] | skip
  all_goals (repeat' split)
  all_goals first | omega | (simp only [not_true_eq_false, and_self] at *; omega)
theorem firstF_eq (s : List UInt8) (hne : s ≠ []) : firstF s = if (Lib.decodeL s).1 = 65533 ∧ (Lib.decodeL s).2 = 1 then 0 else ((Lib.decodeL s).2 : Nat) := by
  unfold firstF atI
  rw [Lib.decodeL_N]
  exact firstI_N _ _ _ _ _ (List.length_pos_iff.2 hne) (UInt8.toNat_lt _) (UInt8.toNat_lt _) (UInt8.toNat_lt _) (UInt8.toNat_lt _)
theorem decodeL_pos (s : List UInt8) : 1 ≤ (Lib.decodeL s).2 := by
  rw [Lib.decodeL_N]
  rcases Lib.decodeN_shape s.length (s.getD 0 0).toNat (s.getD 1 0).toNat (s.getD 2 0).toNat (s.getD 3 0).toNat with ⟨_, e⟩ | ⟨_, _, _, _, e⟩ | ⟨_, _, _, _, _, _, e⟩ | ⟨_, _, _, _, _, _, _, e⟩ | e
  all_goals rw [e]; dsimp only; omega
theorem loop67 : ∀ (n : Nat) (s : List UInt8), s.length ≤ n → s.length ≤ 140737488351232 → TT.lim 73 [.s s] = some (if Lib.validGoD n s = true then [.i .i64 1] else [.i .i64 0])
  | 0, s, hn, hl => by
    obtain rfl : s = [] := List.eq_nil_of_length_eq_zero (by omega)
    refine tree_lim rfl rfl ?_
    simp [Lib.validGoD]
  | n + 1, s, hn, hl => by
    by_cases hne : s = []
    · subst hne
      refine tree_lim rfl rfl ?_
      simp [Lib.validGoD]
    have hp := List.length_pos_iff.2 hne
    have k := first68 s hl
    have hf := firstF_eq s hne
    have hle := Lib.decodeL_le s hne
    have hd := decodeL_pos s
    have hp' : (0 : Int) < (s.length : Int) := by omega
    unfold Lib.validGoD
    rw [if_neg hne]
    by_cases c : (Lib.decodeL s).1 = 65533 ∧ (Lib.decodeL s).2 = 1
    · rw [if_pos c] at hf
      rw [hf] at k
      rw [if_pos c]
      refine tree_lim rfl rfl ?_
      simp [hp, hp', k]
    · rw [if_neg c] at hf
      rw [hf] at k
      rw [if_neg c]
      have ih := loop67 n (s.drop (Lib.decodeL s).2) (by simp; omega) (by simp; omega)
      generalize (Lib.decodeL s).2 = w at *
      have hw : ¬ w = 0 := by omega
      have ht : List.take s.length s = s := List.take_length
      refine tree_lim rfl rfl ?_
      simp [hp, hp', k, hw, hle, ht, ih]
theorem good66 (s : List UInt8) (h : s.length ≤ 140737488351232) : TT.lim 72 [.s s] = some [.b (Lib.validD s)] := by
  have k := loop67 s.length s (Nat.le_refl _) h
  unfold Lib.validD
  refine fn_lim rfl rfl ?_ rfl
  cases hv : Lib.validGoD s.length s <;> rw [hv] at k <;> simp at k <;> simp [k]
theorem check65 (s : List UInt8) (lo hi : Int) (h : s.length ≤ 140737488351232) : TT.lim 71 [.s s, .i .i64 lo, .i .i64 hi] = some [.i .i64 (utfChk s lo hi)] := by
  have h20 := good66 s h
  refine fn_lim rfl rfl ?_ rfl
  unfold utfChk
  by_cases h1 : (s.length : Int) < lo
  · simp [h1]
  · by_cases h2 : hi < (s.length : Int)
    · simp [h1, h2]
    · cases hv : Lib.validD s <;> rw [hv] at h20 <;> simp [h1, h2, h20, hv]
theorem entcheck64 (x : Ent) (h1 : x.1.length ≤ 140737488351232) (h2 : x.2.length ≤ 140737488351232) : TT.lim 70 [ent x] = some [.i .i64 (entChk x)] := by
  have k1 := check65 x.1 1 64 h1
  have k2 := check65 x.2 0 256 h2
  refine fn_lim rfl rfl ?_ rfl
  unfold entChk
  by_cases h : utfChk x.1 1 64 = 0
  · simp [k1, h, k2]
  · simp [k1, h]
def diffAt : List UInt8 → List UInt8 → Option Bool
  | x :: a, y :: b => if x = y then diffAt a b else some (decide (x < y))
  | _, _ => none
theorem bytesLess_diff : ∀ a b : List UInt8, Op.bytesLess a b = (diffAt a b).getD (decide (a.length < b.length))
  | [], [] => rfl
  | [], _ :: _ => by simp [Op.bytesLess, diffAt]
  | _ :: _, [] => by simp [Op.bytesLess, diffAt]
  | x :: a, y :: b => by
    unfold Op.bytesLess diffAt
    rw [bytesLess_diff a b]
    by_cases h : x = y
    · subst h
      simp [UInt8.lt_irrefl]
    · simp [h]
def out73 (a b : List UInt8) : Option Bool → List GV
  | some r => [.i .i64 0, .b r]
  | none => [.i .i64 1, .s a, .s b]
theorem loop73 (a b : List UInt8) (ha : a.length ≤ 140737488351232) (hb : b.length ≤ 140737488351232) : ∀ m i : Nat, i + m = a.length → TT.lim 23 [.s a, .s b, .i .i64 i] = some (out73 a b (diffAt (a.drop i) (b.drop i)))
  | 0, i, hi => by
    have h0 : a.drop i = [] := List.drop_eq_nil_of_le (by omega)
    have h : ¬ ((i : Int) < a.length) := by omega
    refine tree_lim rfl rfl ?_
    simp [h, h0, diffAt, out73]
  | m + 1, i, hi => by
    have hlt : i < a.length := by omega
    have h : ((i : Int) < a.length) := by omega
    by_cases hlb : i < b.length
    rotate_left
    · have h0 : b.drop i = [] := List.drop_eq_nil_of_le (by omega)
      have h1 : ¬ ((i : Int) < b.length) := by omega
      have hd : diffAt (a.drop i) [] = none := by cases a.drop i <;> rfl
      refine tree_lim rfl rfl ?_
      simp [h, h0, h1, hd, out73]
    have hb1 : ((i : Int) < b.length) := by omega
    have ih : TT.lim 23 [.s a, .s b, .i .i64 ((i : Int) + 1)] = _ := loop73 a b ha hb m (i + 1) (by omega)
    have hw := wrap64 (n := (i : Int) + 1) (by omega) (by omega)
    rw [List.drop_eq_getElem_cons hlt, List.drop_eq_getElem_cons hlb]
    unfold diffAt
    by_cases e : a[i] = b[i]
    · rw [if_pos e]
      have e' : ((a[i].toNat : Int) = (b[i].toNat : Int)) = True := eq_true (by rw [e])
      refine tree_lim rfl rfl ?_
      simp [h, hlt, hlb, hb1, e', hw, ih]
    · rw [if_neg e]
      have e' : ¬ (a[i].toNat : Int) = (b[i].toNat : Int) := fun h => e (UInt8.toNat_inj.1 (by omega))
      have hd : decide (a[i] < b[i]) = decide (a[i].toNat < b[i].toNat) := by rw [Bool.eq_iff_iff]; simp [UInt8.lt_iff_toNat_lt]
      refine tree_lim rfl rfl ?_
      simp [h, hlt, hlb, hb1, e', hd, out73]
theorem less72 (a b : List UInt8) (ha : a.length ≤ 140737488351232) (hb : b.length ≤ 140737488351232) : TT.lim 22 [.s a, .s b] = some [.b (Op.bytesLess a b)] := by
  have k : TT.lim 23 [.s a, .s b, .i .i64 0] = _ := loop73 a b ha hb a.length 0 (by omega)
  rw [List.drop_zero, List.drop_zero] at k
  rw [bytesLess_diff]
  refine fn_lim rfl rfl ?_ rfl
  cases hd : diffAt a b with
  | none =>
    rw [hd] at k
    have hl : decide ((a.length : Int) < (b.length : Int)) = decide (a.length < b.length) := by rw [Bool.eq_iff_iff]; simp
    simp [k, out73, hl]
  | some r =>
    rw [hd] at k
    simp [k, out73]
def cmpE (x y : Ent) : Int := if Op.bytesLess x.1 y.1 = true then -1 else if x.1 = y.1 ∧ Op.bytesLess x.2 y.2 = true then -1 else if x = y then 0 else 1
structure SmallE (x : Ent) : Prop where
  key : x.1.length ≤ 140737488351232
  val : x.2.length ≤ 140737488351232
theorem cmp71 (x y : Ent) (hx : SmallE x) (hy : SmallE y) : TT.lim 21 [ent x, ent y] = some [.i .i64 (cmpE x y)] := by
  have k1 := less72 x.1 y.1 hx.key hy.key
  have k2 := less72 x.2 y.2 hx.val hy.val
  have ke := eqGs_ent x y
  unfold cmpE
  refine fn_lim rfl rfl ?_ rfl
  cases h1 : Op.bytesLess x.1 y.1 with
  | true => rw [h1] at k1; simp [k1]
  | false =>
    rw [h1] at k1
    by_cases h2 : x.1 = y.1
    · have h2' : (x.1 = y.1) = True := eq_true h2
      clear h2
      cases h3 : Op.bytesLess x.2 y.2 with
      | true => rw [h3] at k2; simp [k1, h2', k2]
      | false =>
        rw [h3] at k2
        by_cases h4 : x = y
        · have h4' : decide (x = y) = true := by simp [h4]
          rw [h4'] at ke
          have h4'' : (x = y) = True := eq_true h4
          clear h4
          simp [k1, h2', k2, ke, h4'']
        · have h4' : decide (x = y) = false := by simp [h4]
          rw [h4'] at ke
          simp [k1, h2', k2, ke, h4]
    · by_cases h4 : x = y
      · exact absurd (by rw [h4]) h2
      · have h4' : decide (x = y) = false := by simp [h4]
        rw [h4'] at ke
        simp [k1, h2, ke, h4]
def behE (p x : List UInt8) : Int := if x = p then 14 else if Op.bytesLess x p = true then 7 else 0
theorem behind70 (p x : Ent) (hp : SmallE p) (hx : SmallE x) : TT.lim 76 [ent p, ent x] = some [.i .i64 (behE p.1 x.1)] := by
  have k := cmp71 p x hp hx
  have e1 : GV.g [.s p.1, .s p.2] = ent p := rfl
  have e2 : GV.g [.s x.1, .s x.2] = ent x := rfl
  unfold behE
  by_cases h1 : x.1 = p.1
  · have h1' : (p.1 = x.1) = True := eq_true h1.symm
    rw [if_pos h1]
    refine fn_lim rfl rfl ?_ rfl
    simp [h1']
  rw [if_neg h1]
  have h1' : ¬ p.1 = x.1 := fun e => h1 e.symm
  have hne : ¬ p = x := fun e => h1' (by rw [e])
  have hc : cmpE p x = if Op.bytesLess x.1 p.1 = true then 1 else -1 := by
    unfold cmpE
    by_cases h2 : p.1 < x.1
    · rw [if_pos ((bl_iff _ _).2 h2), if_neg fun h => List.lt_irrefl _ (List.lt_trans h2 ((bl_iff _ _).1 h))]
    · have h3 : x.1 < p.1 := by
        rcases List.le_iff_lt_or_eq.1 (List.not_lt.1 h2) with h | h
        · exact h
        · exact absurd h h1
      rw [if_neg fun h => h2 ((bl_iff _ _).1 h), if_neg fun h => h1' h.1, if_neg hne, if_pos ((bl_iff _ _).2 h3)]
  rw [hc] at k
  refine fn_lim rfl rfl ?_ rfl
  cases h3 : Op.bytesLess x.1 p.1 with
  | true => rw [h3] at k; simp [h1', e1, e2, k]
  | false => rw [h3] at k; simp [h1', e1, e2, k]
theorem Ents.small {d : List Ent} (h : Ents d) : ∀ x ∈ d, SmallE x := fun x hx => ⟨(h.2 x hx).1, (h.2 x hx).2⟩
theorem loop63_stop (d : List Ent) (e i : Int) (he : e ≠ 0) : TT.lim 69 [.l (d.map ent), .i .i64 e, .i .i64 i] = some [.i .i64 0, .i .i64 e] := by
  refine tree_lim rfl rfl ?_
  by_cases h : i < (d.length : Int)
  · simp [h, he]
  · simp [h]
theorem loop63 (d : List Ent) (hd : Ents d) : ∀ m i : Nat, i + m = d.length → TT.lim 69 [.l (d.map ent), .i .i64 0, .i .i64 i] = some [.i .i64 0, .i .i64 (chkL (prevK d i) (d.drop i))]
  | 0, i, hi => by
    have h0 : d.drop i = [] := List.drop_eq_nil_of_le (by omega)
    refine tree_lim rfl rfl ?_
    have h : ¬ ((i : Int) < d.length) := by omega
    simp [h, h0, chkL]
  | m + 1, i, hi => by
    have hlt : i < d.length := by omega
    have hx := hd.small d[i] (List.getElem_mem hlt)
    have hp := entcheck64 d[i] hx.key hx.val
    have ih : TT.lim 69 [.l (d.map ent), .i .i64 0, .i .i64 ((i : Int) + 1)] = _ := loop63 d hd m (i + 1) (by omega)
    have hst := fun e he => loop63_stop d e ((i : Int) + 1) he
    have hpk : prevK d (i + 1) = some d[i].1 := by unfold prevK; rw [if_neg (by omega)]; simp [hlt]
    rw [hpk] at ih
    have hdr : d.drop i = d[i] :: d.drop (i + 1) := List.drop_eq_getElem_cons hlt
    rw [hdr]
    have h : ((i : Int) < d.length) := by omega
    have hw := wrap64 (n := (i : Int) + 1) (by omega) (by have := hd.1; omega)
    have he : GV.g [GV.s d[i].1, GV.s d[i].2] = ent d[i] := rfl
    by_cases h1 : entChk d[i] = 0
    rotate_left
    · have hs := hst _ h1
      have hc : chkL (prevK d i) (d[i] :: d.drop (i + 1)) = entChk d[i] := by
        cases prevK d i <;> simp [chkL, h1]
      rw [hc]
      refine tree_lim rfl rfl ?_
      simp [h, hlt, he, hp, h1, hw, hs]
    by_cases h0 : i = 0
    · subst h0
      have hc : chkL (prevK d 0) (d[0] :: d.drop 1) = chkL (some d[0].1) (d.drop 1) := by simp [prevK, chkL, h1]
      rw [hc]
      simp only [Int.natCast_zero, Int.zero_add] at hw ih
      have hpos : (0 : Int) < (d.length : Int) := by omega
      generalize chkL (some d[0].1) (d.drop 1) = out at *
      refine tree_lim rfl rfl ?_
      simp [h, hlt, hpos, he, hp, h1, hw, ih]
    · have hi1 : i - 1 < d.length := by omega
      have hpk2 : prevK d i = some d[i - 1].1 := by unfold prevK; rw [if_neg h0]; simp [hi1]
      have hw2 := wrap64 (n := (i : Int) - 1) (by omega) (by have := hd.1; omega)
      have hi0 : (0 : Int) < (i : Int) := by omega
      have hi0n : 0 < i := by omega
      have ht : ((i : Int) - 1).toNat = i - 1 := by omega
      have hnl : (1 : Int) ≤ (i : Int) := by omega
      have hge : (0 : Int) ≤ (i : Int) - 1 := by omega
      have hy := hd.small d[i - 1] (List.getElem_mem hi1)
      have kb := behind70 d[i - 1] d[i] hy hx
      have he2 : GV.g [GV.s d[i - 1].1, GV.s d[i - 1].2] = ent d[i - 1] := rfl
      have hc : chkL (prevK d i) (d[i] :: d.drop (i + 1)) = if behE d[i - 1].1 d[i].1 ≠ 0 then behE d[i - 1].1 d[i].1 else chkL (some d[i].1) (d.drop (i + 1)) := by
        rw [hpk2]
        unfold behE
        conv => lhs; unfold chkL
        rw [if_neg (by simp [h1])]
        by_cases q1 : d[i].1 = d[i - 1].1
        · simp [q1]
        · by_cases q2 : Op.bytesLess d[i].1 d[i - 1].1 = true
          · simp [q1, q2]
          · simp [q1, q2]
      rw [hc]
      have hst2 := hst (behE d[i - 1].1 d[i].1)
      generalize behE d[i - 1].1 d[i].1 = bb at *
      generalize chkL (some d[i].1) (d.drop (i + 1)) = out at *
      by_cases hb : bb = 0
      · subst hb
        refine tree_lim rfl rfl ?_
        simp [h, hlt, he, he2, hp, h1, hi0, hi0n, hw2, ht, hge, hi1, hnl, kb, hw, ih]
      · have hs := hst2 hb
        refine tree_lim rfl rfl ?_
        simp [h, hlt, he, he2, hp, h1, hi0, hi0n, hw2, ht, hge, hi1, hnl, kb, hw, hb, hs]
theorem check62 (d : List Ent) (hd : Ents d) : TT.lim 68 [.l (d.map ent)] = some [.i .i64 (descrChk d)] := by
  have h17 : TT.lim 69 [.l (d.map ent), .i .i64 0, .i .i64 0] = _ := loop63 d hd d.length 0 (by omega)
  have hpk : prevK d 0 = none := rfl
  rw [hpk, List.drop_zero] at h17
  have w1 := wrapu64 (n := (d.length : Int)) (by omega) (by have := hd.1; omega)
  have s1 := loop63_stop d 12 0 (by decide)
  have s2 := loop63_stop d 13 0 (by decide)
  refine fn_lim rfl rfl ?_ rfl
  unfold descrChk
  by_cases h0 : d.length = 0
  · have : d = [] := List.eq_nil_of_length_eq_zero h0
    subst this
    simp only [List.map_nil] at s1
    simp [IntKind.wrap, IntKind.signed, s1]
  · have hne : ¬ d = [] := fun e => h0 (by rw [e]; rfl)
    by_cases h1 : 16 < d.length
    · have h1' : (16 : Int) < (d.length : Int) := by omega
      simp [w1, h0, hne, h1, h1', s2]
    · have h1' : ¬ (16 : Int) < (d.length : Int) := by omega
      simp [w1, h0, hne, h1, h1', h17]
theorem rowchk61 (r : Row) (hd : Ents r.1) : TT.lim 67 [row r] = some [.i .i64 (rowChk r)] := by
  have k := check62 r.1 hd
  refine fn_lim rfl rfl ?_ rfl
  unfold rowChk
  by_cases h : descrChk r.1 = 0
  · by_cases h2 : r.2 = 0
    · simp [k, h, h2]
    · simp [k, h, h2]
  · simp [k, h]
theorem loop57 (d : List Ent) (hd : d.length ≤ 40) : ∀ (m i : Nat) (acc : List Ent), i + m = d.length → acc.length = i → TT.lim 63 [.l (acc.map ent), .l (d.map ent), .i .i64 d.length, .i .i64 i] = some [.i .i64 0, .l ((acc ++ d.drop i).map ent)]
  | 0, i, acc, hi, ha => by
    have h0 : d.drop i = [] := List.drop_eq_nil_of_le (by omega)
    have h : ¬ ((i : Int) < d.length) := by omega
    refine tree_lim rfl rfl ?_
    simp [h, h0]
  | m + 1, i, acc, hi, ha => by
    have hlt : i < d.length := by omega
    have ih : TT.lim 63 [.l ((acc ++ [d[i]]).map ent), .l (d.map ent), .i .i64 d.length, .i .i64 ((i : Int) + 1)] = _ := loop57 d hd m (i + 1) (acc ++ [d[i]]) (by omega) (by simp; omega)
    rw [List.append_assoc, List.singleton_append, ← List.drop_eq_getElem_cons hlt] at ih
    generalize hL : (acc ++ d.drop i).map ent = L at ih ⊢
    simp only [List.map_append, List.map_cons, List.map_nil] at ih
    have h : ((i : Int) < d.length) := by omega
    have hw := wrap64 (n := (i : Int) + 1) (by omega) (by omega)
    have he : GV.g [GV.s d[i].1, GV.s d[i].2] = ent d[i] := rfl
    have hok : (ent d[i]).elemOk 2 = true := rfl
    have hb : 2 * (acc.length + 1) * 32 ≤ 281474976710656 ∧ acc.length + 1 ≤ 281474976710656 := by omega
    refine tree_lim rfl rfl ?_
    simp [h, hlt, he, hok, hb, hw, ih]
theorem to56 (d : List Ent) (hd : d.length ≤ 40) : TT.lim 62 [.l (d.map ent)] = some [.l (d.map ent)] := by
  have k : TT.lim 63 [.l [], .l (d.map ent), .i .i64 d.length, .i .i64 0] = _ := loop57 d hd d.length 0 [] (by omega) rfl
  rw [List.drop_zero, List.nil_append] at k
  refine fn_lim rfl rfl ?_ rfl
  simp [k]
theorem loop55 (l : List Row) (hl : l.length ≤ 300) (hf : Few l) : ∀ (m i : Nat) (acc : List Row), i + m = l.length → acc.length = i → TT.lim 61 [.l (acc.map row), .l (l.map row), .i .i64 l.length, .i .i64 i] = some [.i .i64 0, .l ((acc ++ l.drop i).map row)]
  | 0, i, acc, hi, ha => by
    have h0 : l.drop i = [] := List.drop_eq_nil_of_le (by omega)
    have h : ¬ ((i : Int) < l.length) := by omega
    refine tree_lim rfl rfl ?_
    simp [h, h0]
  | m + 1, i, acc, hi, ha => by
    have hlt : i < l.length := by omega
    have ih : TT.lim 61 [.l ((acc ++ [l[i]]).map row), .l (l.map row), .i .i64 l.length, .i .i64 ((i : Int) + 1)] = _ := loop55 l hl hf m (i + 1) (acc ++ [l[i]]) (by omega) (by simp; omega)
    rw [List.append_assoc, List.singleton_append, ← List.drop_eq_getElem_cons hlt] at ih
    generalize hL : (acc ++ l.drop i).map row = L at ih ⊢
    simp only [List.map_append, List.map_cons, List.map_nil] at ih
    have k := to56 l[i].1 (few40 (hf _ (List.getElem_mem hlt)))
    have h : ((i : Int) < l.length) := by omega
    have hw := wrap64 (n := (i : Int) + 1) (by omega) (by omega)
    have he : GV.g [GV.l (l[i].1.map ent), GV.i .u64 l[i].2] = row l[i] := rfl
    have hok : (row l[i]).elemOk 2 = true := rfl
    have hb : 2 * (acc.length + 1) * 32 ≤ 281474976710656 ∧ acc.length + 1 ≤ 281474976710656 := by omega
    refine tree_lim rfl rfl ?_
    simp [h, hlt, k, he, hok, hb, hw, ih]
theorem to54 (l : List Row) (hl : GoodT l) : TT.lim 60 [.l (l.map row)] = some [.l (l.map row)] := by
  have k : TT.lim 61 [.l [], .l (l.map row), .i .i64 l.length, .i .i64 0] = _ := loop55 l hl.len hl.few l.length 0 [] (by omega) rfl
  rw [List.drop_zero, List.nil_append] at k
  refine fn_lim rfl rfl ?_ rfl
  simp [k]
theorem tmod128 (n : Nat) : (n : Int).tmod 128 = ((n % 128 : Nat) : Int) := by rw [Int.tmod_eq_emod_of_nonneg (by omega)]; omega
theorem tdiv128 (n : Nat) : (n : Int).tdiv 128 = ((n / 128 : Nat) : Int) := by rw [Int.tdiv_eq_ediv_of_nonneg (by omega)]; omega
theorem bytesG_one (n : Nat) (h : n < 256) : bytesG [.i .u8 (n : Int)] = some [UInt8.ofNat n] := by
  have := bytesG_map [n] (by simpa using h)
  simpa [byteG] using this
theorem add_one (s : List UInt8) (c : UInt8) (h : s.length ≤ 1000000) : bin2 .add (some (.s s)) (some (.s [c])) = some (.s (s ++ [c])) := by
  rw [bin2_sadd, if_pos (by simp only [List.length_singleton]; omega)]
theorem step76 (n a b q : Int) (s c r : List UInt8) (h' : 127 < n) (e1 : n.tmod 128 = a) (e2 : n.tdiv 128 = b) (w1 : IntKind.u64.wrap (a + 128) = a + 128) (w2 : IntKind.u8.wrap (a + 128) = a + 128) (w3 : IntKind.u64.wrap b = b)
    (e3 : bytesG [.i .u8 (a + 128)] = some c) (hb : bin2 .add (some (.s s)) (some (.s c)) = some (.s (s ++ c))) (k : TT.lim 19 [.i .u64 b, .s (s ++ c)] = some [.i .i64 0, .i .u64 q, .s (s ++ (c ++ r))]) :
    TT.lim 19 [.i .u64 n, .s s] = some [.i .i64 0, .i .u64 q, .s (s ++ (c ++ r))] := by
  refine tree_lim rfl rfl ?_
  simp [-bin2_sadd, h', e1, e2, w1, w2, w3, e3, hb, k]
theorem put75_aux (n q : Int) (r c : List UInt8) (k : TT.lim 19 [.i .u64 n, .s []] = some [.i .i64 0, .i .u64 q, .s r]) (w : IntKind.u8.wrap q = q) (e : bytesG [.i .u8 q] = some c) (hr : bin2 .add (some (.s r)) (some (.s c)) = some (.s (r ++ c))) :
    TT.lim 18 [.i .u64 n] = some [.s (r ++ c)] := by
  refine fn_lim rfl rfl ?_ rfl
  simp [-bin2_sadd, k, w, e, hr]
theorem loop76 : ∀ n : Nat, n < 18446744073709551616 → ∃ q r, q < 128 ∧ r ++ [UInt8.ofNat q] = vput n ∧ ∀ s : List UInt8, s.length + (vput n).length ≤ 1000 → TT.lim 19 [.i .u64 n, .s s] = some [.i .i64 0, .i .u64 (q : Nat), .s (s ++ r)] := by
  intro n
  induction n using Nat.strongRecOn with
  | _ n ih =>
    intro hn
    by_cases h : n < 128
    · refine ⟨n, [], h, by rw [vput_lt h, List.nil_append], fun s hs => ?_⟩
      have h' : ¬ (127 : Int) < (n : Int) := by omega
      refine tree_lim rfl rfl ?_
      simp [h']
    · obtain ⟨q, r, h1, h2, h3⟩ := ih (n / 128) (by omega) (by omega)
      refine ⟨q, [UInt8.ofNat (n % 128 + 128)] ++ r, h1, by rw [vput_ge h, ← h2, List.append_assoc, List.singleton_append], fun s hs => ?_⟩
      rw [vput_ge h, List.length_cons] at hs
      have k := h3 (s ++ [UInt8.ofNat (n % 128 + 128)]) (by simp; omega)
      rw [List.append_assoc] at k
      have e3 := bytesG_one (n % 128 + 128) (by omega)
      rw [show ((n % 128 + 128 : Nat) : Int) = ((n % 128 : Nat) : Int) + 128 by omega] at e3
      exact step76 n _ _ q s _ r (by omega) (tmod128 n) (tdiv128 n) (wrapu64 (by omega) (by omega)) (wrapu8 (by omega) (by omega)) (wrapu64 (by omega) (by omega)) e3 (add_one s _ (by omega)) k
theorem put75 (n : Nat) (hn : n < 18446744073709551616) : TT.lim 18 [.i .u64 n] = some [.s (vput n)] := by
  obtain ⟨q, r, h1, h2, h3⟩ := loop76 n hn
  have hl := vput_len hn
  have k := h3 [] (by simp; omega)
  rw [List.nil_append] at k
  rw [← h2]
  exact put75_aux n q r _ k (wrapu8 (by omega) (by omega)) (bytesG_one q (by omega)) (add_one r _ (by rw [← h2] at hl; simp at hl; omega))
theorem entput78 (x : Ent) (h1 : x.1.length ≤ 140737488351232) (h2 : x.2.length ≤ 140737488351232) : TT.lim 79 [ent x] = some [.s (entPut x)] := by
  have k1 := put75 x.1.length (by omega)
  have k2 := put75 x.2.length (by omega)
  have l1 := vput_len (n := x.1.length) (by omega)
  have l2 := vput_len (n := x.2.length) (by omega)
  have w1 := wrapu64 (n := (x.1.length : Int)) (by omega) (by omega)
  have w2 := wrapu64 (n := (x.2.length : Int)) (by omega) (by omega)
  have c1 : ((vput x.1.length).length : Int) + (x.1.length : Int) ≤ 9223372036854775807 := by omega
  have c2 : ((vput x.1.length).length : Int) + ((x.1.length : Int) + ((vput x.2.length).length : Int)) ≤ 9223372036854775807 := by omega
  have c3 : ((vput x.1.length).length : Int) + ((x.1.length : Int) + (((vput x.2.length).length : Int) + (x.2.length : Int))) ≤ 9223372036854775807 := by omega
  refine fn_lim rfl rfl ?_ rfl
  simp [w1, w2, k1, k2, c1, c2, c3, entPut, Int.add_assoc]
theorem loop77 (d : List Ent) (hf : d.all fewE = true) (hl : d.length ≤ 40) : ∀ (m i : Nat) (acc : List UInt8), i + m = d.length → acc.length ≤ 10 + 620 * i →
    TT.lim 78 [.s acc, .l (d.map ent), .i .i64 d.length, .i .i64 i] = some [.i .i64 0, .s (acc ++ (d.drop i).flatMap entPut)]
  | 0, i, acc, hi, ha => by
    have h0 : d.drop i = [] := List.drop_eq_nil_of_le (by omega)
    refine tree_lim rfl rfl ?_
    have h : ¬ ((i : Int) < d.length) := by omega
    simp [h, h0]
  | m + 1, i, acc, hi, ha => by
    have hlt : i < d.length := by omega
    have hx := List.all_eq_true.1 hf d[i] (List.getElem_mem hlt)
    have hx1 := hx
    unfold fewE at hx1
    simp only [decide_eq_true_iff] at hx1
    have hp := entput78 d[i] (by omega) (by omega)
    have hpl := entPut_len hx
    have ih : TT.lim 78 [.s (acc ++ entPut d[i]), .l (d.map ent), .i .i64 d.length, .i .i64 ((i : Int) + 1)] = _ := loop77 d hf hl m (i + 1) (acc ++ entPut d[i]) (by omega) (by simp; omega)
    have hd : (d.drop i).flatMap entPut = entPut d[i] ++ (d.drop (i + 1)).flatMap entPut := by rw [List.drop_eq_getElem_cons hlt, List.flatMap_cons]
    rw [hd, ← List.append_assoc]
    have h : ((i : Int) < d.length) := by omega
    have hw := wrap64 (n := (i : Int) + 1) (by omega) (by omega)
    have hb : (acc.length : Int) + ((entPut d[i]).length : Int) ≤ 9223372036854775807 := by omega
    have he : GV.g [GV.s d[i].1, GV.s d[i].2] = ent d[i] := rfl
    refine tree_lim rfl rfl ?_
    simp [h, hlt, he, hp, hb, hw, ih]
theorem key74 (d : List Ent) (hf : few12 d = true) : TT.lim 77 [.l (d.map ent)] = some [.s (keyF d)] := by
  unfold few12 at hf
  rw [Bool.and_eq_true, decide_eq_true_iff] at hf
  have k := put75 d.length (by omega)
  have l1 := vput_len (n := d.length) (by omega)
  have w1 := wrapu64 (n := (d.length : Int)) (by omega) (by omega)
  have h11 : TT.lim 78 [.s (vput d.length), .l (d.map ent), .i .i64 d.length, .i .i64 0] = _ := loop77 d hf.1 hf.2 d.length 0 (vput d.length) (by omega) (by omega)
  rw [List.drop_zero] at h11
  refine fn_lim rfl rfl ?_ rfl
  unfold keyF
  generalize d.flatMap entPut = F at *
  simp [w1, k, h11]
theorem key_len {d : List Ent} (hf : few12 d = true) : (keyF d).length ≤ 30000 := by
  unfold few12 at hf
  rw [Bool.and_eq_true, decide_eq_true_iff] at hf
  have l1 := vput_len (n := d.length) (by omega)
  have := flat_len620 d hf.1
  unfold keyF
  simp only [List.length_append]; omega
theorem less79 (a b : List UInt8) (ha : a.length ≤ 140737488351232) (hb : b.length ≤ 140737488351232) : TT.lim 20 [.s a, .s b] = some [.b (Op.bytesLess a b)] := by
  have k := cmp71 (a, []) (b, []) ⟨ha, by simp⟩ ⟨hb, by simp⟩
  have e1 : GV.g [.s a, .s []] = ent (a, []) := rfl
  have e2 : GV.g [.s b, .s []] = ent (b, []) := rfl
  have hc : decide (cmpE (a, []) (b, []) < 0) = Op.bytesLess a b := by
    unfold cmpE
    cases h : Op.bytesLess a b with
    | true => simp
    | false =>
      simp only [Bool.false_eq_true, if_false]
      rw [if_neg (by simp [Op.bytesLess])]
      split <;> rfl
  refine fn_lim rfl rfl ?_ rfl
  simp [e1, e2, k, hc]
theorem loop60 (t : List Row) (ht : Rows t) (hf : Few t) (h256 : t.length ≤ 256) : ∀ m i : Nat, i + m = t.length →
    TT.lim 66 [.l (t.map row), .i .i64 t.length, .i .i64 i] = some (tagged (chkR (if h : 0 < i then (t[i - 1]?).map K else none) (t.drop i)))
  | 0, i, hi => by
    have h0 : t.drop i = [] := List.drop_eq_nil_of_le (by omega)
    have h : ¬ ((i : Int) < t.length) := by omega
    refine tree_lim rfl rfl ?_
    simp [h, h0, chkR, tagged]
  | m + 1, i, hi => by
    have hlt : i < t.length := by omega
    have hr := ht.2 t[i] (List.getElem_mem hlt)
    have fr := hf t[i] (List.getElem_mem hlt)
    have k15 := rowchk61 t[i] hr.1
    have k6 := key74 t[i].1 fr
    have hrow : GV.g [.l (t[i].1.map ent), .i .u64 t[i].2] = row t[i] := rfl
    have ih : TT.lim 66 [.l (t.map row), .i .i64 t.length, .i .i64 ((i : Int) + 1)] = _ := loop60 t ht hf h256 m (i + 1) (by omega)
    have hpk : (if h : 0 < i + 1 then (t[i + 1 - 1]?).map K else none) = some (K t[i]) := by simp [hlt]
    rw [hpk] at ih
    rw [List.drop_eq_getElem_cons hlt]
    have h : ((i : Int) < t.length) := by omega
    have hw := wrap64 (n := (i : Int) + 1) (by omega) (by omega)
    by_cases h1 : rowChk t[i] = 0
    rotate_left
    · have hc : ∀ p, chkR p (t[i] :: t.drop (i + 1)) = rowChk t[i] := fun p => by unfold chkR; rw [if_pos h1]
      rw [hc]
      have ht1 : tagged (rowChk t[i]) = [.i .i64 0, .i .i64 (rowChk t[i])] := by unfold tagged; rw [if_neg h1]
      rw [ht1]
      refine tree_lim rfl rfl ?_
      simp [-List.getElem_cons_drop, h, hlt, hrow, k15, h1]
    by_cases h0 : i = 0
    · subst h0
      have hc : chkR (if h : 0 < 0 then (t[0 - 1]?).map K else none) (t[0] :: t.drop (0 + 1)) = chkR (some (K t[0])) (t.drop (0 + 1)) := by
        conv => lhs; unfold chkR
        simp [h1]
      rw [hc]
      generalize tagged (chkR (some (K t[0])) (t.drop (0 + 1))) = out at *
      simp only [Int.natCast_zero, Int.zero_add] at hw ih
      have hn : (0 : Int) < (t.length : Int) := by omega
      refine tree_lim rfl rfl ?_
      simp [-List.getElem_cons_drop, h, hlt, hn, hrow, k15, h1, k6, hw, ih]
    · have hi0 : 0 < i := by omega
      have hi1 : i - 1 < t.length := by omega
      have hi0' : (0 : Int) < (i : Int) := by omega
      have hw2 := wrap64 (n := (i : Int) - 1) (by omega) (by omega)
      have ht2 : ((i : Int) - 1).toNat = i - 1 := by omega
      have hnl : (1 : Int) ≤ (i : Int) := by omega
      have hge : (0 : Int) ≤ (i : Int) - 1 := by omega
      have fp := hf t[i - 1] (List.getElem_mem hi1)
      have k7 := key74 t[i - 1].1 fp
      have kl := less79 (keyF t[i - 1].1) (keyF t[i].1) (by have := key_len fp; omega) (by have := key_len fr; omega)
      have hp : (if h : 0 < i then (t[i - 1]?).map K else none) = some (K t[i - 1]) := by simp [hi0, hi1]
      rw [hp]
      have hc : chkR (some (K t[i - 1])) (t[i] :: t.drop (i + 1)) = if K t[i] = K t[i - 1] then 14 else if Op.bytesLess (K t[i]) (K t[i - 1]) = true then 7 else chkR (some (K t[i])) (t.drop (i + 1)) := by
        conv => lhs; unfold chkR
        rw [if_neg (by simp [h1])]
      rw [hc]
      generalize chkR (some (K t[i])) (t.drop (i + 1)) = out at *
      by_cases h2 : keyF t[i].1 = keyF t[i - 1].1
      · rw [if_pos h2]
        have h2' : (keyF t[i - 1].1 = keyF t[i].1) = True := eq_true h2.symm
        refine tree_lim rfl rfl ?_
        simp [-List.getElem_cons_drop, h, hlt, hrow, k15, h1, k6, hi0', hi0, hw2, ht2, hnl, hge, hi1, k7, h2', tagged]
      · rw [if_neg h2]
        have h2' : ¬ keyF t[i - 1].1 = keyF t[i].1 := fun e => h2 e.symm
        by_cases h3 : keyF t[i].1 < keyF t[i - 1].1
        · rw [if_pos ((bl_iff _ _).2 h3)]
          rw [(bl_not _ _).2 fun h => List.lt_irrefl _ (List.lt_trans h h3)] at kl
          refine tree_lim rfl rfl ?_
          simp [-List.getElem_cons_drop, h, hlt, hrow, k15, h1, k6, hi0', hi0, hw2, ht2, hnl, hge, hi1, k7, h2', kl, tagged]
        · rw [if_neg fun h => h3 ((bl_iff _ _).1 h)]
          have h4 : keyF t[i - 1].1 < keyF t[i].1 := by
            rcases List.le_iff_lt_or_eq.1 (List.not_lt.1 h3) with h | h
            · exact h
            · exact absurd h h2'
          rw [(bl_iff _ _).2 h4] at kl
          refine tree_lim rfl rfl ?_
          simp [-List.getElem_cons_drop, h, hlt, hrow, k15, h1, k6, hi0', hi0, hw2, ht2, hnl, hge, hi1, k7, h2', kl, hw, ih]
theorem check59 (t : List Row) (ht : Rows t) (hf : Few t) : TT.lim 65 [.l (t.map row)] = some [.i .i64 (checkT t)] := by
  unfold checkT
  by_cases h1 : 256 < t.length
  · have h1' : (256 : Int) < (t.length : Int) := by omega
    refine fn_lim rfl rfl ?_ rfl
    simp [h1, h1']
  · have h1' : ¬ (256 : Int) < (t.length : Int) := by omega
    have h38 : TT.lim 66 [.l (t.map row), .i .i64 t.length, .i .i64 0] = _ := loop60 t ht hf (by omega) t.length 0 (by omega)
    rw [List.drop_zero] at h38
    have hp : (if h : 0 < 0 then (t[0 - 1]?).map K else none) = none := rfl
    rw [hp] at h38
    refine fn_lim rfl rfl ?_ rfl
    by_cases h2 : chkR none t = 0
    · simp only [tagged, h2, if_true] at h38
      simp [h1, h1', h38, h2]
    · simp only [tagged, h2, if_false] at h38
      simp [h1, h1', h38, h2]
theorem loop99 (a b : List Row) (i : Nat) (ha : i < a.length) (hb : i < b.length) (hl : a[i].1.length = b[i].1.length) (h40 : a[i].1.length ≤ 40) (x3 x4 x5 x7 x8 x9 : GV) : ∀ m j : Nat, j + m = a[i].1.length →
    TT.lim 102 [.l (a.map row), .l (b.map row), .i .i64 i, x3, x4, x5, .i .i64 a[i].1.length, x7, x8, x9, .i .i64 j] = some (if a[i].1.drop j = b[i].1.drop j then [.i .i64 1, .l (a.map row), .l (b.map row), x3, .i .i64 i, x4, x5, .i .i64 a[i].1.length, x7, x8, x9] else [.i .i64 0])
  | 0, j, hj => by
    have h0 : a[i].1.drop j = [] := List.drop_eq_nil_of_le (by omega)
    have h1 : b[i].1.drop j = [] := List.drop_eq_nil_of_le (by omega)
    have h : ¬ ((j : Int) < a[i].1.length) := by omega
    refine tree_lim rfl rfl ?_
    simp [h, h0, h1]
  | m + 1, j, hj => by
    have hla : j < a[i].1.length := by omega
    have hlb : j < b[i].1.length := by omega
    have ih : TT.lim 102 [.l (a.map row), .l (b.map row), .i .i64 i, x3, x4, x5, .i .i64 a[i].1.length, x7, x8, x9, .i .i64 ((j : Int) + 1)] = _ := loop99 a b i ha hb hl h40 x3 x4 x5 x7 x8 x9 m (j + 1) (by omega)
    have h : ((j : Int) < a[i].1.length) := by omega
    have hw := wrap64 (n := (j : Int) + 1) (by omega) (by omega)
    have ke := eqGs_ent a[i].1[j] b[i].1[j]
    have hc : (a[i].1.drop j = b[i].1.drop j) = (a[i].1[j] = b[i].1[j] ∧ a[i].1.drop (j + 1) = b[i].1.drop (j + 1)) := by
      rw [List.drop_eq_getElem_cons hla, List.drop_eq_getElem_cons hlb, List.cons.injEq]
    simp only [hc]
    by_cases e : a[i].1[j] = b[i].1[j]
    · have e' : (a[i].1[j] = b[i].1[j]) = True := eq_true e
      rw [decide_eq_true e] at ke
      clear e hc
      simp only [e', true_and]
      refine tree_lim rfl rfl ?_
      simp [h, ha, hb, hla, hlb, ke, hw, ih]
    · rw [decide_eq_false e] at ke
      rw [if_neg fun h => e h.1]
      clear hc
      refine tree_lim rfl rfl ?_
      simp [h, ha, hb, hla, hlb, ke]
theorem loop98 (a b : List Row) (hl : a.length = b.length) (hal : a.length ≤ 1000) (fa : Few a) : ∀ m i : Nat, i + m = a.length →
    TT.lim 101 [.l (a.map row), .l (b.map row), .i .i64 a.length, .i .i64 i] = some (if a.drop i = b.drop i then [.i .i64 1] else [.i .i64 0])
  | 0, i, hi => by
    have h0 : a.drop i = [] := List.drop_eq_nil_of_le (by omega)
    have h1 : b.drop i = [] := List.drop_eq_nil_of_le (by omega)
    have h : ¬ ((i : Int) < a.length) := by omega
    refine tree_lim rfl rfl ?_
    simp [h, h0, h1]
  | m + 1, i, hi => by
    have hla : i < a.length := by omega
    have hlb : i < b.length := by omega
    have ih : TT.lim 101 [.l (a.map row), .l (b.map row), .i .i64 a.length, .i .i64 ((i : Int) + 1)] = _ := loop98 a b hl hal fa m (i + 1) (by omega)
    have h : ((i : Int) < a.length) := by omega
    have hw := wrap64 (n := (i : Int) + 1) (by omega) (by omega)
    have h40 := few40 (fa _ (List.getElem_mem hla))
    have hc : (a.drop i = b.drop i) = (a[i] = b[i] ∧ a.drop (i + 1) = b.drop (i + 1)) := by
      rw [List.drop_eq_getElem_cons hla, List.drop_eq_getElem_cons hlb, List.cons.injEq]
    simp only [hc]
    have hpe : (a[i] = b[i]) = (a[i].1 = b[i].1 ∧ a[i].2 = b[i].2) := propext Prod.ext_iff
    clear hc
    by_cases e2 : a[i].2 = b[i].2
    rotate_left
    · rw [if_neg fun h => e2 (by rw [h.1])]
      clear hpe
      refine tree_lim rfl rfl ?_
      simp [h, hla, hlb, e2]
    by_cases e3 : a[i].1.length = b[i].1.length
    rotate_left
    · rw [if_neg fun h => e3 (by rw [h.1])]
      have e2' : (a[i].2 = b[i].2) = True := eq_true e2
      clear hpe e2
      have e3' : ¬ (a[i].1.length : Int) = (b[i].1.length : Int) := by omega
      refine tree_lim rfl rfl ?_
      simp [h, hla, hlb, e2', e3, e3']
    have k := loop99 a b i hla hlb e3 h40 (.i .i64 a.length) (row a[i]) (.l (a[i].1.map ent)) (row b[i]) (.l (b[i].1.map ent)) (.i .i64 b[i].1.length) a[i].1.length 0 (by omega)
    rw [List.drop_zero, List.drop_zero] at k
    simp only [Int.natCast_zero] at k
    have e2' : (a[i].2 = b[i].2) = True := eq_true e2
    have e3' : ((a[i].1.length : Int) = (b[i].1.length : Int)) = True := eq_true (by omega)
    have e3'' : (a[i].1.length = b[i].1.length) = True := eq_true e3
    by_cases e1 : a[i].1 = b[i].1
    · rw [if_pos e1] at k
      have hc2 : (a[i] = b[i]) = True := eq_true (Prod.ext e1 e2)
      simp only [hc2, true_and]
      clear hpe e2 e3 e1 hc2
      refine tree_lim rfl rfl ?_
      simp [h, hla, hlb, e2', e3', e3'', k, hw, ih]
    · rw [if_neg e1] at k
      rw [if_neg fun h => e1 (by rw [h.1])]
      clear hpe e2 e3
      refine tree_lim rfl rfl ?_
      simp [h, hla, hlb, e2', e3', e3'', k]
theorem same97 (a b : List Row) (hal : a.length ≤ 1000) (fa : Few a) : TT.lim 100 [.l (a.map row), .l (b.map row)] = some [.b (decide (a = b))] := by
  by_cases hl : a.length = b.length
  · have k : TT.lim 101 [.l (a.map row), .l (b.map row), .i .i64 a.length, .i .i64 0] = _ := loop98 a b hl hal fa a.length 0 (by omega)
    rw [List.drop_zero, List.drop_zero] at k
    have hl' : ((a.length : Int) = (b.length : Int)) = True := eq_true (by omega)
    have hl'' : (a.length = b.length) = True := eq_true hl
    clear hl
    by_cases e : a = b
    · rw [if_pos e] at k
      rw [decide_eq_true e]
      clear e
      refine fn_lim rfl rfl ?_ rfl
      simp [hl', hl'', k]
    · rw [if_neg e] at k
      rw [decide_eq_false e]
      refine fn_lim rfl rfl ?_ rfl
      simp [hl', hl'', k]
  · rw [decide_eq_false fun e => hl (by rw [e])]
    have hl' : ¬ (a.length : Int) = (b.length : Int) := by omega
    refine fn_lim rfl rfl ?_ rfl
    simp [hl, hl']
def common : List UInt8 → List UInt8 → Nat
  | a :: x, b :: y => if a = b then common x y + 1 else 0
  | _, _ => 0
theorem common_nil (b : List UInt8) : common [] b = 0 := by unfold common; rfl
theorem common_nil' (a : List UInt8) : common a [] = 0 := by cases a <;> rfl
theorem common_le : ∀ a b : List UInt8, common a b ≤ a.length ∧ common a b ≤ b.length
  | [], b => by simp [common]
  | _ :: _, [] => by simp [common]
  | a :: x, b :: y => by
    unfold common
    have := common_le x y
    split
    · simp only [List.length_cons]; omega
    · omega
theorem comLoop (a b : List UInt8) (ha : a.length ≤ 140737488351232) (hb : b.length ≤ 140737488351232) : ∀ m i : Nat, i + m = a.length → TT.lim 7 [.s a, .s b, .i .i64 i] = some [.i .i64 0, .i .i64 ((i + common (a.drop i) (b.drop i) : Nat) : Int)]
  | 0, i, hi => by
    have h0 : a.drop i = [] := List.drop_eq_nil_of_le (by omega)
    have h : ¬ ((i : Int) < a.length) := by omega
    refine tree_lim rfl rfl ?_
    simp [h, h0, common_nil]
  | m + 1, i, hi => by
    have hlt : i < a.length := by omega
    have h : ((i : Int) < a.length) := by omega
    by_cases hlb : i < b.length
    rotate_left
    · have h0 : b.drop i = [] := List.drop_eq_nil_of_le (by omega)
      have h1 : ¬ ((i : Int) < b.length) := by omega
      refine tree_lim rfl rfl ?_
      simp [h, h0, h1, common_nil']
    have hb1 : ((i : Int) < b.length) := by omega
    have ih : TT.lim 7 [.s a, .s b, .i .i64 ((i : Int) + 1)] = _ := comLoop a b ha hb m (i + 1) (by omega)
    have hw := wrap64 (n := (i : Int) + 1) (by omega) (by omega)
    rw [List.drop_eq_getElem_cons hlt, List.drop_eq_getElem_cons hlb]
    unfold common
    by_cases e : a[i] = b[i]
    · rw [if_pos e]
      have e' : ((a[i].toNat : Int) = (b[i].toNat : Int)) = True := eq_true (by rw [e])
      have e2 : ((i + (common (a.drop (i + 1)) (b.drop (i + 1)) + 1) : Nat) : Int) = ((i + 1 + common (a.drop (i + 1)) (b.drop (i + 1)) : Nat) : Int) := by omega
      rw [e2]
      refine tree_lim rfl rfl ?_
      simp [h, hlt, hlb, hb1, e', hw, ih]
    · rw [if_neg e]
      have e' : ¬ (a[i].toNat : Int) = (b[i].toNat : Int) := fun h => e (UInt8.toNat_inj.1 (by omega))
      refine tree_lim rfl rfl ?_
      simp [h, hlt, hlb, hb1, e']
theorem comP (a b : List UInt8) (ha : a.length ≤ 140737488351232) (hb : b.length ≤ 140737488351232) : TT.lim 6 [.s a, .s b] = some [.i .i64 (common a b)] := by
  have k : TT.lim 7 [.s a, .s b, .i .i64 0] = _ := comLoop a b ha hb a.length 0 (by omega)
  rw [List.drop_zero, List.drop_zero, Nat.zero_add] at k
  refine fn_lim rfl rfl ?_ rfl
  simp [k]
theorem rcomLoop (a b : List UInt8) (ha : a.length ≤ 140737488351232) (hb : b.length ≤ 140737488351232) : ∀ m i : Nat, i + m = a.length →
    TT.lim 17 [.s a, .s b, .i .i64 i] = some (if common (a.drop i) (b.drop i) < a.length - i ∧ common (a.drop i) (b.drop i) < b.length - i then [.i .i64 0, .i .i64 ((i + common (a.drop i) (b.drop i) : Nat) : Int)] else [.i .i64 1, .s a, .s b])
  | 0, i, hi => by
    have h0 : a.drop i = [] := List.drop_eq_nil_of_le (by omega)
    have h : ¬ ((i : Int) < a.length) := by omega
    have h2 : ¬ (common ([] : List UInt8) (b.drop i) < a.length - i ∧ common [] (b.drop i) < b.length - i) := by omega
    rw [h0, if_neg h2]
    refine tree_lim rfl rfl ?_
    simp [h]
  | m + 1, i, hi => by
    have hlt : i < a.length := by omega
    have h : ((i : Int) < a.length) := by omega
    by_cases hlb : i < b.length
    rotate_left
    · have h1 : ¬ ((i : Int) < b.length) := by omega
      rw [if_neg (by omega)]
      refine tree_lim rfl rfl ?_
      simp [h, h1]
    have hb1 : ((i : Int) < b.length) := by omega
    have ih : TT.lim 17 [.s a, .s b, .i .i64 ((i : Int) + 1)] = _ := rcomLoop a b ha hb m (i + 1) (by omega)
    have hw := wrap64 (n := (i : Int) + 1) (by omega) (by omega)
    have hc : common (a.drop i) (b.drop i) = if a[i] = b[i] then common (a.drop (i + 1)) (b.drop (i + 1)) + 1 else 0 := by
      rw [List.drop_eq_getElem_cons hlt, List.drop_eq_getElem_cons hlb]; rfl
    rw [hc]
    by_cases e : a[i] = b[i]
    · rw [if_pos e]
      have e' : ((a[i].toNat : Int) = (b[i].toNat : Int)) = True := eq_true (by rw [e])
      have e2 : ((i + (common (a.drop (i + 1)) (b.drop (i + 1)) + 1) : Nat) : Int) = ((i + 1 + common (a.drop (i + 1)) (b.drop (i + 1)) : Nat) : Int) := by omega
      have e3 : (common (a.drop (i + 1)) (b.drop (i + 1)) + 1 < a.length - i ∧ common (a.drop (i + 1)) (b.drop (i + 1)) + 1 < b.length - i) = (common (a.drop (i + 1)) (b.drop (i + 1)) < a.length - (i + 1) ∧ common (a.drop (i + 1)) (b.drop (i + 1)) < b.length - (i + 1)) := by
        apply propext; omega
      rw [e2]
      simp only [e3]
      refine tree_lim rfl rfl ?_
      simp [-Int.natCast_add, h, hlt, hlb, hb1, e', hw, ih]
    · rw [if_neg e]
      have e' : ¬ (a[i].toNat : Int) = (b[i].toNat : Int) := fun h => e (UInt8.toNat_inj.1 (by omega))
      rw [if_pos (by omega)]
      refine tree_lim rfl rfl ?_
      simp [h, hlt, hlb, hb1, e']
theorem rcomP (a b : List UInt8) (ha : a.length ≤ 140737488351232) (hb : b.length ≤ 140737488351232) : TT.lim 16 [.s a, .s b] = some [.i .i64 (common a b)] := by
  have k : TT.lim 17 [.s a, .s b, .i .i64 0] = _ := rcomLoop a b ha hb a.length 0 (by omega)
  rw [List.drop_zero, List.drop_zero, Nat.zero_add, Nat.sub_zero, Nat.sub_zero] at k
  have hl := common_le a b
  refine fn_lim rfl rfl ?_ rfl
  by_cases hc : common a b < a.length ∧ common a b < b.length
  · rw [if_pos hc] at k
    simp [k]
  · rw [if_neg hc] at k
    by_cases h2 : (b.length : Int) < a.length
    · have : (common a b : Int) = b.length := by omega
      simp [k, h2, this]
    · have : (common a b : Int) = a.length := by omega
      simp [k, h2, this]
/-- A text behind another one, as it is written. -/
def oneF (a s : List UInt8) : List UInt8 := vput (common a s) ++ vput (s.length - common a s) ++ s.drop (common a s)
theorem oneP (a s : List UInt8) (ha : a.length ≤ 1000000) (hs : s.length ≤ 1000000) : TT.lim 5 [.s a, .s s] = some [.s (oneF a s)] := by
  have k := comP a s (by omega) (by omega)
  have hl := common_le a s
  have p1 := put7 (common a s) (by omega)
  have p2 := put7 (s.length - common a s) (by omega)
  have l1 := vput_len (n := common a s) (by omega)
  have l2 := vput_len (n := s.length - common a s) (by omega)
  have w1 := wrapu64 (n := (common a s : Int)) (by omega) (by omega)
  have w2 := wrapu64 (n := (s.length : Int) - (common a s : Int)) (by omega) (by omega)
  have w3 := wrap64 (n := (s.length : Int) - (common a s : Int)) (by omega) (by omega)
  have e2 : (s.length : Int) - (common a s : Int) = ((s.length - common a s : Nat) : Int) := by omega
  rw [e2] at w2 w3
  refine fn_lim rfl rfl ?_ rfl
  unfold oneF
  generalize common a s = c at *
  have h1 : ((vput c).length : Int) + ((vput (s.length - c)).length : Int) ≤ 9223372036854775807 := by omega
  have h2 : ((vput c).length : Int) + ((vput (s.length - c)).length : Int) + ((s.length : Int) - (c : Int)) ≤ 9223372036854775807 := by omega
  have h3 : (c : Int) ≤ s.length := by omega
  have h4 : ((s.length - c : Nat) : Int) = (s.length : Int) - c := by omega
  have hd : (s.take s.length).drop c = s.drop c := by rw [List.take_length]
  rw [← e2] at w2 w3
  rw [← e2] at p2
  simp [k, p1, p2, w1, w2, w3, h1, h2, h3, h4, hd]
def vval : List UInt8 → Nat
  | [] => 0
  | b :: r => b.toNat % 128 + 128 * vval r
def vlen : Nat → List UInt8 → Option Nat
  | 0, _ => none
  | _ + 1, [] => none
  | n + 1, b :: r => if b.toNat < 128 then some 1 else (vlen n r).map (· + 1)
def vbad (k : Nat) (b : Nat) : Int := if k = 10 ∧ 1 < b then 3 else if 1 < k ∧ b = 0 then 2 else 0
/-- The number that a text begins with, in how many bytes, or why there is none. -/
def vget (s : List UInt8) : Nat × Nat × Int := match vlen 10 s with
  | none => (0, 0, if 10 ≤ s.length then 3 else 1)
  | some k => if vbad k (s.getD (k - 1) 0).toNat ≠ 0 then (0, 0, vbad k (s.getD (k - 1) 0).toNat) else (vval (s.take k), k, 0)
theorem vlen_some : ∀ {n : Nat} {s : List UInt8} {k : Nat}, vlen n s = some k → 1 ≤ k ∧ k ≤ n ∧ k ≤ s.length ∧ (s.getD (k - 1) 0).toNat < 128
  | 0, s, k, h => by simp [vlen] at h
  | n + 1, [], k, h => by simp [vlen] at h
  | n + 1, b :: r, k, h => by
    unfold vlen at h
    split at h
    · next hb => cases h; simpa using hb
    · obtain ⟨j, hj, rfl⟩ := Option.map_eq_some_iff.1 h
      obtain ⟨h1, h2, h3, h4⟩ := vlen_some hj
      obtain ⟨i, rfl⟩ : ∃ i, j = i + 1 := ⟨j - 1, by omega⟩
      refine ⟨by omega, by omega, by simp; omega, ?_⟩
      simpa using h4
theorem vval_lt : ∀ (s : List UInt8), vval s < 128 ^ s.length
  | [] => by simp [vval]
  | b :: r => by
    have := vval_lt r
    simp only [vval, List.length_cons, Nat.pow_succ]
    omega
theorem shl7 (b i : Nat) (hb : b < 128) (hi : i ≤ 9) (h9 : i = 9 → b ≤ 1) : shG .shl .u64 (b : Int) ((7 * i : Nat) : Int) = some (.i .u64 ((b * 128 ^ i : Nat) : Int)) := by
  have e : min ((7 * i : Nat) : Int).toNat 64 = 7 * i := by simp; omega
  have e2 : (2 : Int) ^ (7 * i) = ((128 ^ i : Nat) : Int) := by rw [Int.pow_mul]; simp
  have hlt : b * 128 ^ i < 18446744073709551616 := by
    rcases Nat.lt_or_ge i 9 with h | h
    · have : (128 : Nat) ^ i ≤ 128 ^ 8 := Nat.pow_le_pow_right (by omega) (by omega)
      have h2 : b * 128 ^ i ≤ 127 * 128 ^ 8 := Nat.mul_le_mul (by omega) this
      omega
    · have hi9 : i = 9 := by omega
      subst hi9
      have := h9 rfl
      omega
  unfold shG
  rw [if_neg (by omega)]
  show some (GV.i .u64 (IntKind.u64.wrap ((b : Int) * 2 ^ (min ((7 * i : Nat) : Int).toNat 64)))) = _
  rw [e, e2, ← Int.natCast_mul, wrapu64 (by omega) (by omega)]
theorem orI (a c i : Nat) (ha : a < 2 ^ i) (h : a + c * 2 ^ i < 18446744073709551616) : intG .or .u64 (a : Int) ((c * 2 ^ i : Nat) : Int) = some (.i .u64 ((a + c * 2 ^ i : Nat) : Int)) := by
  have h1 : ((BitVec.ofInt 64 (a : Int) ||| BitVec.ofInt 64 ((c * 2 ^ i : Nat) : Int)).toNat : Nat) = a + c * 2 ^ i := by
    rw [BitVec.toNat_or, BitVec.toNat_ofInt, BitVec.toNat_ofInt]
    generalize hC : c * 2 ^ i = C at *
    have e1 : ((a : Int) % ((2 ^ 64 : Nat) : Int)).toNat = a := by omega
    have e2 : ((C : Int) % ((2 ^ 64 : Nat) : Int)).toNat = C := by omega
    rw [e1, e2, ← hC, Nat.or_comm, Nat.mul_comm, Nat.add_comm]
    exact (Nat.two_pow_add_eq_or_of_lt ha c).symm
  show some (GV.i .u64 (IntKind.u64.wrap (((BitVec.ofInt 64 (a : Int) ||| BitVec.ofInt 64 ((c * 2 ^ i : Nat) : Int)).toNat : Nat) : Int))) = _
  rw [h1, wrapu64 (by omega) (by omega)]
theorem p128 (i : Nat) : 128 ^ i = 2 ^ (7 * i) := by rw [Nat.pow_mul]
/-- Some number, whichever. -/
theorem shl_some (a b : Int) (hb : 0 ≤ b) : ∃ r, shG .shl .u64 a b = some (.i .u64 r) := by
  unfold shG
  rw [if_neg (by omega)]
  exact ⟨_, rfl⟩
theorem or_some (a b : Int) : ∃ r, intG .or .u64 a b = some (.i .u64 r) := ⟨_, rfl⟩
def getOut (s : List UInt8) (acc : Int) (i : Nat) : List GV := match vlen (10 - i) (s.drop i) with
  | none => [.i .i64 1, .s s]
  | some k => if vbad (i + k) (s.getD (i + k - 1) 0).toNat ≠ 0 then [.i .i64 0, .i .u64 0, .i .i64 0, .i .i64 (vbad (i + k) (s.getD (i + k - 1) 0).toNat)]
    else [.i .i64 0, .i .u64 (acc + ((128 ^ i * vval ((s.drop i).take k) : Nat) : Int)), .i .i64 ((i + k : Nat) : Int), .i .i64 0]
theorem getLoop (s : List UInt8) (hs : s.length ≤ 140737488351232) : ∀ (m i : Nat) (acc : Int), i + m = min s.length 10 → (i ≤ 9 → 0 ≤ acc ∧ acc < ((128 ^ i : Nat) : Int)) →
    TT.lim 29 [.s s, .i .u64 acc, .i .i64 ((min s.length 10 : Nat) : Int), .i .i64 i] = some (getOut s acc i)
  | 0, i, acc, hi, ha => by
    have h : ¬ ((i : Int) < ((min s.length 10 : Nat) : Int)) := by omega
    have hv : vlen (10 - i) (s.drop i) = none := by
      rcases Nat.lt_or_ge i 10 with h1 | h1
      · have : s.drop i = [] := List.drop_eq_nil_of_le (by omega)
        rw [this]
        obtain ⟨j, hj⟩ : ∃ j, 10 - i = j + 1 := ⟨10 - i - 1, by omega⟩
        rw [hj]; rfl
      · have : 10 - i = 0 := by omega
        rw [this]; unfold vlen; rfl
    unfold getOut
    rw [hv]
    generalize ((min s.length 10 : Nat) : Int) = M at *
    refine tree_lim rfl rfl ?_
    simp [h]
  | m + 1, i, acc, hi, ha => by
    have hlt : i < s.length := by omega
    have h9 : i ≤ 9 := by omega
    have h : ((i : Int) < ((min s.length 10 : Nat) : Int)) := by omega
    obtain ⟨a1, a2⟩ := ha h9
    obtain ⟨n, rfl⟩ : ∃ n : Nat, acc = n := ⟨acc.toNat, by omega⟩
    have hb := (s[i]).toNat_lt
    have k7 := and127_8 (s[i]).toNat (by omega)
    have w8 := wrapu64 (n := (((s[i]).toNat % 128 : Nat) : Int)) (by omega) (by omega)
    have wi := wrap64 (n := 7 * (i : Int)) (by omega) (by omega)
    have wj := wrap64 (n := (i : Int) + 1) (by omega) (by omega)
    have hd : s.drop i = s[i] :: s.drop (i + 1) := List.drop_eq_getElem_cons hlt
    obtain ⟨j, hj⟩ : ∃ j, 10 - i = j + 1 := ⟨10 - i - 1, by omega⟩
    have hj' : 10 - (i + 1) = j := by omega
    have e7 : (7 * (i : Int)) = ((7 * i : Nat) : Int) := by omega
    have hgd : s.getD i 0 = s[i] := by simp [List.getD, hlt]
    by_cases hc : 128 ≤ (s[i]).toNat
    · -- another one follows
      have hc' : ((128 : Int) ≤ ((s[i]).toNat : Int)) := by omega
      have step : ∃ V : Int, (i + 1 ≤ 9 → 0 ≤ V ∧ V < ((128 ^ (i + 1) : Nat) : Int) ∧ V = n + (((s[i]).toNat % 128 * 128 ^ i : Nat) : Int)) ∧ (∃ S, shG .shl .u64 ((((s[i]).toNat % 128 : Nat)) : Int) (7 * (i : Int)) = some (.i .u64 S) ∧ intG .or .u64 (n : Int) S = some (.i .u64 V)) := by
        rcases Nat.lt_or_ge i 9 with h1 | h1
        · have k1 := shl7 ((s[i]).toNat % 128) i (by omega) (by omega) (by omega)
          have hp : (s[i]).toNat % 128 * 128 ^ i ≤ 127 * 128 ^ i := Nat.mul_le_mul_right _ (by omega)
          have hpp : 128 ^ (i + 1) = 128 * 128 ^ i := by rw [Nat.pow_succ, Nat.mul_comm]
          have hq : (128 : Nat) ^ i ≤ 128 ^ 8 := Nat.pow_le_pow_right (by omega) (by omega)
          have k2 := orI n ((s[i]).toNat % 128) (7 * i) (by rw [← p128]; omega) (by rw [← p128]; omega)
          rw [← p128] at k2
          refine ⟨_, fun _ => ⟨by omega, ?_, rfl⟩, _, by rw [e7]; exact k1, by rw [k2]; simp⟩
          rw [hpp]; omega
        · obtain ⟨S, hS⟩ := shl_some ((((s[i]).toNat % 128 : Nat)) : Int) (7 * (i : Int)) (by omega)
          obtain ⟨V, hV⟩ := or_some (n : Int) S
          exact ⟨V, fun h => by omega, S, hS, hV⟩
      obtain ⟨V, hV, S, hS, hO⟩ := step
      have ih : TT.lim 29 [.s s, .i .u64 V, .i .i64 ((min s.length 10 : Nat) : Int), .i .i64 ((i : Int) + 1)] = _ := getLoop s hs m (i + 1) V (by omega) (fun h => ⟨(hV h).1, (hV h).2.1⟩)
      have hout : getOut s n i = getOut s V (i + 1) := by
        unfold getOut
        rw [hd, hj, hj']
        have hv : vlen (j + 1) (s[i] :: s.drop (i + 1)) = (vlen j (s.drop (i + 1))).map (· + 1) := by
          show (if (s[i]).toNat < 128 then _ else _) = _
          rw [if_neg (by omega)]
        rw [hv]
        cases hx : vlen j (s.drop (i + 1)) with
        | none => rfl
        | some k =>
          obtain ⟨q1, q2, _, _⟩ := vlen_some hx
          have hV' := hV (by omega)
          have e1 : i + (k + 1) = i + 1 + k := by omega
          simp only [Option.map_some, e1]
          split
          · rfl
          · have e2 : (n : Int) + ((128 ^ i * vval ((s[i] :: s.drop (i + 1)).take (k + 1)) : Nat) : Int) = V + ((128 ^ (i + 1) * vval ((s.drop (i + 1)).take k) : Nat) : Int) := by
              rw [hV'.2.2, List.take_succ_cons]
              have : 128 ^ i * vval (s[i] :: (s.drop (i + 1)).take k) = (s[i]).toNat % 128 * 128 ^ i + 128 ^ (i + 1) * vval ((s.drop (i + 1)).take k) := by
                show 128 ^ i * ((s[i]).toNat % 128 + 128 * vval _) = _
                rw [Nat.mul_add, Nat.pow_succ, Nat.mul_assoc, Nat.mul_comm (128 ^ i) ((s[i]).toNat % 128)]
              rw [this]; omega
            rw [e2]
      rw [hout]
      generalize getOut s V (i + 1) = O at *
      generalize ((min s.length 10 : Nat) : Int) = M at *
      have em : (((s[i]).toNat % 128 : Nat) : Int) = ((s[i]).toNat : Int) % 128 := by omega
      rw [em] at k7 w8 hS
      refine tree_lim rfl rfl ?_
      simp [h, hlt, hc', k7, w8, wi, wj, hS, hO, ih]
    · -- the last one
      have hc' : ¬ ((128 : Int) ≤ ((s[i]).toNat : Int)) := by omega
      have hv : vlen (j + 1) (s[i] :: s.drop (i + 1)) = some 1 := by
        show (if (s[i]).toNat < 128 then _ else _) = _
        rw [if_pos (by omega)]
      have hout : getOut s n i = if vbad (i + 1) (s[i]).toNat ≠ 0 then [.i .i64 0, .i .u64 0, .i .i64 0, .i .i64 (vbad (i + 1) (s[i]).toNat)] else [.i .i64 0, .i .u64 ((n + (s[i]).toNat * 128 ^ i : Nat) : Int), .i .i64 ((i : Int) + 1), .i .i64 0] := by
        unfold getOut
        rw [hd, hj, hv]
        have e1 : i + 1 - 1 = i := by omega
        have e2 : 128 ^ i * vval ((s[i] :: s.drop (i + 1)).take 1) = (s[i]).toNat * 128 ^ i := by
          simp only [List.take_succ_cons, List.take_zero, vval]
          rw [Nat.mod_eq_of_lt (by omega), Nat.mul_comm]; simp
        simp only [e1, hgd, e2]
        congr 1
      rw [hout]
      have step : ∃ S V, shG .shl .u64 ((((s[i]).toNat % 128 : Nat)) : Int) (7 * (i : Int)) = some (.i .u64 S) ∧ intG .or .u64 (n : Int) S = some (.i .u64 V) ∧ (vbad (i + 1) (s[i]).toNat = 0 → V = ((n + (s[i]).toNat * 128 ^ i : Nat) : Int)) := by
        by_cases hbad : i = 9 ∧ 1 < (s[i]).toNat
        · obtain ⟨S, hS⟩ := shl_some ((((s[i]).toNat % 128 : Nat)) : Int) (7 * (i : Int)) (by omega)
          obtain ⟨V, hV⟩ := or_some (n : Int) S
          refine ⟨S, V, hS, hV, fun h => ?_⟩
          unfold vbad at h
          rw [if_pos (by omega)] at h
          cases h
        · have k1 := shl7 ((s[i]).toNat % 128) i (by omega) (by omega) (by omega)
          have em : (s[i]).toNat % 128 = (s[i]).toNat := Nat.mod_eq_of_lt (by omega)
          rw [em] at k1
          have hp : (s[i]).toNat * 128 ^ i ≤ 127 * 128 ^ i := Nat.mul_le_mul_right _ (by omega)
          have hb64 : n + (s[i]).toNat * 128 ^ i < 18446744073709551616 := by
            rcases Nat.lt_or_ge i 9 with h1 | h1
            · have hq : (128 : Nat) ^ i ≤ 128 ^ 8 := Nat.pow_le_pow_right (by omega) (by omega)
              omega
            · have hi9 : i = 9 := by omega
              have h1 : (s[i]).toNat ≤ 1 := by omega
              have hq : (128 : Nat) ^ i = 128 ^ 9 := by rw [hi9]
              have hp2 : (s[i]).toNat * 128 ^ i ≤ 1 * 128 ^ i := Nat.mul_le_mul_right _ h1
              omega
          have k2 := orI n (s[i]).toNat (7 * i) (by rw [← p128]; omega) (by rw [← p128]; omega)
          rw [← p128] at k2
          exact ⟨_, _, by rw [e7, em]; exact k1, k2, fun _ => rfl⟩
      obtain ⟨S, V, hS, hO, hV⟩ := step
      generalize ((n + (s[i]).toNat * 128 ^ i : Nat) : Int) = R at *
      generalize ((min s.length 10 : Nat) : Int) = M at *
      have bd : vbad (i + 1) (s[i]).toNat = if (i : Int) = 9 ∧ (1 : Int) < ((s[i]).toNat : Int) then 3 else if (0 : Int) < (i : Int) ∧ ((s[i]).toNat : Int) = 0 then 2 else 0 := by
        unfold vbad
        congr 1
        · apply propext; omega
        · congr 1
          apply propext; omega
      rw [bd] at hV ⊢
      have em : (((s[i]).toNat % 128 : Nat) : Int) = ((s[i]).toNat : Int) % 128 := by omega
      rw [em] at k7 w8 hS
      refine tree_lim rfl rfl ?_
      rcases (Classical.em ((i : Int) = 9)).imp eq_true eq_false with q1 | q1 <;> rcases (Classical.em ((1 : Int) < ((s[i]).toNat : Int))).imp eq_true eq_false with q2 | q2 <;>
        rcases (Classical.em ((0 : Int) < (i : Int))).imp eq_true eq_false with q3 | q3 <;> rcases (Classical.em (((s[i]).toNat : Int) = 0)).imp eq_true eq_false with q4 | q4
      all_goals
        have q3n : (0 < i) = ((0 : Int) < (i : Int)) := propext (by omega)
        have q4n : ((s[i]).toNat = 0) = (((s[i]).toNat : Int) = 0) := propext (by omega)
        rw [q3] at q3n
        rw [q4] at q4n
        simp only [q1, q2, q3, q4, and_self, and_true, and_false, false_and, true_and, if_true, if_false] at hV ⊢
        first
        | (have hV := hV trivial; subst hV)
        | skip
        simp [h, hlt, hc', k7, w8, wi, wj, hS, hO, q1, q2, q3, q4, q3n, q4n]
theorem getP (s : List UInt8) (hs : s.length ≤ 140737488351232) : TT.lim 28 [.s s] = some [.i .u64 ((vget s).1 : Nat), .i .i64 ((vget s).2.1 : Nat), .i .i64 (vget s).2.2] := by
  have k : TT.lim 29 [.s s, .i .u64 0, .i .i64 ((min s.length 10 : Nat) : Int), .i .i64 0] = _ := getLoop s hs (min s.length 10) 0 0 (by omega) (by simp)
  have hm : (if (10 : Int) < (s.length : Int) then (10 : Int) else (s.length : Int)) = ((min s.length 10 : Nat) : Int) := by split <;> omega
  unfold getOut at k
  rw [List.drop_zero, Nat.sub_zero] at k
  unfold vget
  generalize ((min s.length 10 : Nat) : Int) = M at *
  refine fn_lim rfl rfl ?_ rfl
  cases hv : vlen 10 s with
  | none =>
    rw [hv] at k
    by_cases h10 : 10 ≤ s.length
    · have h1 : (10 : Int) ≤ s.length := by omega
      simp [hm, k, h10, h1]
    · have h1 : ¬ (10 : Int) ≤ s.length := by omega
      simp [hm, k, h10, h1]
  | some j =>
    rw [hv] at k
    simp only [Nat.zero_add, Nat.pow_zero, Nat.one_mul, Int.zero_add] at k
    by_cases hb : vbad j (s.getD (j - 1) 0).toNat = 0
    · simp only [hb, ne_eq, not_true_eq_false, if_false] at k ⊢
      simp [hm, k]
    · simp only [hb, ne_eq, not_false_eq_true, if_true] at k ⊢
      simp [hm, k]
theorem rget0_stop (s : List UInt8) (k i : Int) (h : ¬ k = 0) (h0 : 0 ≤ i) : TT.lim 34 [.s s, .i .i64 k, .i .i64 i] = some [.i .i64 0, .s s, .i .i64 k] := by
  refine tree_lim rfl rfl ?_
  by_cases h1 : i < s.length <;> by_cases h2 : i < 10 <;> simp [h, h1, h2]
theorem rget0 (s : List UInt8) (hs : s.length ≤ 140737488351232) : ∀ m i : Nat, i + m = min s.length 10 →
    TT.lim 34 [.s s, .i .i64 0, .i .i64 i] = some [.i .i64 0, .s s, .i .i64 ((match vlen (10 - i) (s.drop i) with | none => 0 | some k => i + k : Nat) : Int)]
  | 0, i, hi => by
    have hv : vlen (10 - i) (s.drop i) = none := by
      rcases Nat.lt_or_ge i 10 with h1 | h1
      · have : s.drop i = [] := List.drop_eq_nil_of_le (by omega)
        rw [this]
        obtain ⟨j, hj⟩ : ∃ j, 10 - i = j + 1 := ⟨10 - i - 1, by omega⟩
        rw [hj]; rfl
      · have : 10 - i = 0 := by omega
        rw [this]; unfold vlen; rfl
    rw [hv]
    refine tree_lim rfl rfl ?_
    by_cases h1 : (i : Int) < s.length
    · have h2 : ¬ (i : Int) < 10 := by omega
      simp [h1, h2]
    · simp [h1]
  | m + 1, i, hi => by
    have hlt : i < s.length := by omega
    have h1 : (i : Int) < s.length := by omega
    have h2 : (i : Int) < 10 := by omega
    have wj := wrap64 (n := (i : Int) + 1) (by omega) (by omega)
    have hd : s.drop i = s[i] :: s.drop (i + 1) := List.drop_eq_getElem_cons hlt
    obtain ⟨j, hj⟩ : ∃ j, 10 - i = j + 1 := ⟨10 - i - 1, by omega⟩
    have hj' : 10 - (i + 1) = j := by omega
    rw [hd, hj]
    by_cases hc : (s[i]).toNat < 128
    · have hc' : ((s[i]).toNat : Int) < 128 := by omega
      have hv : vlen (j + 1) (s[i] :: s.drop (i + 1)) = some 1 := by
        show (if (s[i]).toNat < 128 then _ else _) = _
        rw [if_pos hc]
      rw [hv]
      have k := rget0_stop s ((i : Int) + 1) ((i : Int) + 1) (by omega) (by omega)
      refine tree_lim rfl rfl ?_
      simp [h1, h2, hlt, hc', wj, k]
    · have hc' : ¬ ((s[i]).toNat : Int) < 128 := by omega
      have hv : vlen (j + 1) (s[i] :: s.drop (i + 1)) = (vlen j (s.drop (i + 1))).map (· + 1) := by
        show (if (s[i]).toNat < 128 then _ else _) = _
        rw [if_neg hc]
      rw [hv]
      have ih : TT.lim 34 [.s s, .i .i64 0, .i .i64 ((i : Int) + 1)] = _ := rget0 s hs m (i + 1) (by omega)
      rw [hj'] at ih
      have he : (match (vlen j (s.drop (i + 1))).map (· + 1) with | none => 0 | some k => i + k : Nat) = (match vlen j (s.drop (i + 1)) with | none => 0 | some k => i + 1 + k : Nat) := by
        cases vlen j (s.drop (i + 1)) with
        | none => rfl
        | some k => simp; omega
      rw [he]
      generalize (match vlen j (s.drop (i + 1)) with | none => 0 | some k => i + 1 + k : Nat) = R at *
      refine tree_lim rfl rfl ?_
      simp [h1, h2, hlt, hc', wj, ih]
theorem rget1 (s : List UInt8) (K : Nat) (hK : K ≤ 10) (hs : K ≤ s.length) : ∀ (m i acc : Nat) (p : Int), i + m = K → (i ≤ 9 → p = ((128 ^ i : Nat) : Int)) → acc + 128 ^ i * vval ((s.drop i).take m) < 18446744073709551616 →
    TT.lim 35 [.s s, .i .i64 K, .i .u64 acc, .i .u64 p, .i .i64 i] = some [.i .i64 0, .i .i64 K, .i .u64 ((acc + 128 ^ i * vval ((s.drop i).take m) : Nat) : Int)]
  | 0, i, acc, p, hi, hp, hb => by
    have h : ¬ ((i : Int) < (K : Int)) := by omega
    refine tree_lim rfl rfl ?_
    simp [h, vval]
  | m + 1, i, acc, p, hi, hp, hb => by
    have hlt : i < s.length := by omega
    have h : ((i : Int) < (K : Int)) := by omega
    have hp := hp (by omega)
    subst hp
    have hd : s.drop i = s[i] :: s.drop (i + 1) := List.drop_eq_getElem_cons hlt
    have e : 128 ^ i * vval ((s.drop i).take (m + 1)) = (s[i]).toNat % 128 * 128 ^ i + 128 ^ (i + 1) * vval ((s.drop (i + 1)).take m) := by
      rw [hd, List.take_succ_cons]
      show 128 ^ i * ((s[i]).toNat % 128 + 128 * vval _) = _
      rw [Nat.mul_add, Nat.pow_succ, Nat.mul_assoc, Nat.mul_comm (128 ^ i) ((s[i]).toNat % 128)]
    rw [e] at hb ⊢
    have hb8 := (s[i]).toNat_lt
    have wj := wrap64 (n := (i : Int) + 1) (by omega) (by omega)
    have ih : TT.lim 35 [.s s, .i .i64 K, .i .u64 ((acc + (s[i]).toNat % 128 * 128 ^ i : Nat) : Int), .i .u64 (IntKind.u64.wrap (((128 ^ i : Nat) : Int) * 128)), .i .i64 ((i : Int) + 1)] = _ :=
      rget1 s K hK hs m (i + 1) (acc + (s[i]).toNat % 128 * 128 ^ i) _ (by omega) (fun h9 => by
        have hq : (128 : Nat) ^ i ≤ 128 ^ 8 := Nat.pow_le_pow_right (by omega) (by omega)
        have h0 : (0 : Int) ≤ ((128 ^ i : Nat) : Int) := Int.natCast_nonneg _
        have := wrapu64 (n := ((128 ^ i : Nat) : Int) * 128) (by omega) (by omega)
        rw [this, Nat.pow_succ]; simp) (by omega)
    have em : ((s[i]).toNat : Int).tmod 128 = (((s[i]).toNat % 128 : Nat) : Int) := by rw [Int.tmod_eq_emod_of_nonneg (by omega)]; omega
    have w8 := wrapu64 (n := (((s[i]).toNat % 128 : Nat) : Int)) (by omega) (by omega)
    have hml : (s[i]).toNat % 128 * 128 ^ i < 18446744073709551616 := by omega
    have wm : IntKind.u64.wrap ((((s[i]).toNat % 128 : Nat) : Int) * ((128 ^ i : Nat) : Int)) = (((s[i]).toNat % 128 * 128 ^ i : Nat) : Int) := by
      rw [← Int.natCast_mul, wrapu64 (by omega) (by omega)]
    have wa : IntKind.u64.wrap ((acc : Int) + (((s[i]).toNat % 128 * 128 ^ i : Nat) : Int)) = ((acc + (s[i]).toNat % 128 * 128 ^ i : Nat) : Int) := by
      rw [← Int.natCast_add, wrapu64 (by omega) (by omega)]
    rw [Nat.add_assoc] at ih
    generalize acc + ((s[i]).toNat % 128 * 128 ^ i + 128 ^ (i + 1) * vval ((s.drop (i + 1)).take m)) = TOT at *
    generalize ((acc + (s[i]).toNat % 128 * 128 ^ i : Nat) : Int) = A at *
    generalize (((s[i]).toNat % 128 * 128 ^ i : Nat) : Int) = B at *
    generalize (((s[i]).toNat % 128 : Nat) : Int) = C at *
    generalize ((128 ^ i : Nat) : Int) = Q at *
    refine tree_lim rfl rfl ?_
    simp [h, hlt, em, w8, wm, wa, wj, ih]
theorem rgetP (s : List UInt8) (hs : s.length ≤ 140737488351232) : TT.lim 33 [.s s] = some [.i .u64 ((vget s).1 : Nat), .i .i64 ((vget s).2.1 : Nat), .i .i64 (vget s).2.2] := by
  have k : TT.lim 34 [.s s, .i .i64 0, .i .i64 0] = _ := rget0 s hs (min s.length 10) 0 (by omega)
  rw [List.drop_zero, Nat.sub_zero] at k
  unfold vget
  refine fn_lim rfl rfl ?_ rfl
  cases hv : vlen 10 s with
  | none =>
    rw [hv] at k
    have k : TT.lim 34 [.s s, .i .i64 0, .i .i64 0] = some [.i .i64 0, .s s, .i .i64 0] := k
    by_cases h10 : 10 ≤ s.length
    · have h1 : (10 : Int) ≤ s.length := by omega
      simp [k, h10, h1]
    · have h1 : ¬ (10 : Int) ≤ s.length := by omega
      simp [k, h10, h1]
  | some K =>
    rw [hv] at k
    obtain ⟨v1, v2, v3, v4⟩ := vlen_some hv
    simp only [Nat.zero_add] at k
    have hgd : s.getD (K - 1) 0 = s[K - 1]'(by omega) := by simp [List.getD, show K - 1 < s.length by omega]
    rw [hgd] at v4
    simp only [hgd]
    have hget : s[K - 1]? = some (s[K - 1]'(by omega)) := List.getElem?_eq_getElem (by omega)
    have hK0 : ¬ ((K : Int) = 0) := by omega
    have hK1 : ¬ (K = 0) := by omega
    have hK2 : (1 : Int) ≤ (K : Int) := by omega
    have hK3 : 1 ≤ K := by omega
    have wk := wrap64 (n := (K : Int) - 1) (by omega) (by omega)
    have hkn : ((K : Int) - 1).toNat = K - 1 := by omega
    have hk0 : (0 : Int) ≤ (K : Int) - 1 := by omega
    have hval : vbad K (s[K - 1]'(by omega)).toNat = 0 → TT.lim 35 [.s s, .i .i64 K, .i .u64 0, .i .u64 1, .i .i64 0] = some [.i .i64 0, .i .i64 K, .i .u64 ((vval (s.take K) : Nat) : Int)] := by
      intro hbad
      have hlt : vval (s.take K) < 18446744073709551616 := by
        have h1 : vval (s.take K) = vval (s.take (K - 1)) + 128 ^ (K - 1) * ((s[K - 1]'(by omega)).toNat % 128) := by
          have : ∀ (a : List UInt8) (b : UInt8), vval (a ++ [b]) = vval a + 128 ^ a.length * (b.toNat % 128) := by
            intro a b
            induction a with
            | nil => simp [vval]
            | cons c a ih =>
              simp only [List.cons_append, vval, ih, List.length_cons, Nat.pow_succ, Nat.mul_add, Nat.add_assoc]
              rw [Nat.mul_comm (128 ^ a.length) 128, Nat.mul_assoc]
          have e : s.take K = s.take (K - 1) ++ [s[K - 1]'(by omega)] := by
            obtain ⟨j, rfl⟩ : ∃ j, K = j + 1 := ⟨K - 1, by omega⟩
            simp
          rw [e, this, List.length_take, Nat.min_eq_left (by omega)]
        have h2 := vval_lt (s.take (K - 1))
        rw [List.length_take, Nat.min_eq_left (by omega)] at h2
        rw [h1]
        rcases Nat.lt_or_ge K 10 with h3 | h3
        · have hq : (128 : Nat) ^ (K - 1) ≤ 128 ^ 8 := Nat.pow_le_pow_right (by omega) (by omega)
          have hq2 : 128 ^ (K - 1) * ((s[K - 1]'(by omega)).toNat % 128) ≤ 128 ^ (K - 1) * 127 := Nat.mul_le_mul_left _ (by omega)
          omega
        · have hK10 : K = 10 := by omega
          have hb1 : (s[K - 1]'(by omega)).toNat ≤ 1 := by
            unfold vbad at hbad
            split at hbad
            · cases hbad
            · next h => omega
          have hq : (128 : Nat) ^ (K - 1) = 128 ^ 9 := by rw [hK10]
          have hq2 : 128 ^ (K - 1) * ((s[K - 1]'(by omega)).toNat % 128) ≤ 128 ^ (K - 1) * 1 := Nat.mul_le_mul_left _ (by omega)
          omega
      have := rget1 s K v2 v3 K 0 0 1 (by omega) (fun _ => rfl) (by simpa using hlt)
      simpa using this
    have bd : vbad K (s[K - 1]'(by omega)).toNat = if (K : Int) = 10 ∧ (1 : Int) < ((s[K - 1]'(by omega)).toNat : Int) then 3 else if (1 : Int) < (K : Int) ∧ ((s[K - 1]'(by omega)).toNat : Int) = 0 then 2 else 0 := by
      unfold vbad
      congr 1
      · apply propext; omega
      · congr 1
        apply propext; omega
    have h9 : (K : Int) = 10 → s[9]? = some (s[K - 1]'(by omega)) := by
      intro h
      have : K - 1 = 9 := by omega
      rw [← this]; exact hget
    obtain ⟨b, hbe⟩ : ∃ b, s[K - 1]'(by omega) = b := ⟨_, rfl⟩
    simp only [hbe] at hval bd h9 hget ⊢
    rw [bd] at hval ⊢
    rcases (Classical.em ((K : Int) = 10)).imp eq_true eq_false with q1 | q1 <;> rcases (Classical.em ((1 : Int) < (b.toNat : Int))).imp eq_true eq_false with q2 | q2 <;>
      rcases (Classical.em ((1 : Int) < (K : Int))).imp eq_true eq_false with q3 | q3 <;> rcases (Classical.em ((b.toNat : Int) = 0)).imp eq_true eq_false with q4 | q4
    all_goals
      have q2n : (1 < b.toNat) = ((1 : Int) < (b.toNat : Int)) := propext (by omega)
      have q3n : (1 < K) = ((1 : Int) < (K : Int)) := propext (by omega)
      have q4n : (b.toNat = 0) = ((b.toNat : Int) = 0) := propext (by omega)
      rw [q2] at q2n
      rw [q3] at q3n
      rw [q4] at q4n
      simp only [q1, q2, q3, q4, and_self, and_true, and_false, false_and, true_and, if_true, if_false, ne_eq, not_true_eq_false, not_false_eq_true] at hval ⊢
      first
      | (have hval := hval trivial)
      | skip
      first
      | (have h9 := h9 (of_eq_true q1))
      | skip
      simp [k, hK0, hK1, hK2, hK3, wk, hkn, hk0, hget, h9, hval, q1, q2, q3, q4, q2n, q3n, q4n]
theorem vval_snoc (a : List UInt8) (b : UInt8) : vval (a ++ [b]) = vval a + 128 ^ a.length * (b.toNat % 128) := by
  induction a with
  | nil => simp [vval]
  | cons c a ih =>
    simp only [List.cons_append, vval, ih, List.length_cons, Nat.pow_succ, Nat.mul_add, Nat.add_assoc]
    rw [Nat.mul_comm (128 ^ a.length) 128, Nat.mul_assoc]
/-- Bytes that are a number's writing. -/
theorem put_vval : ∀ (j k : Nat) (s : List UInt8), vlen j s = some k → (1 < k → (s.getD (k - 1) 0) ≠ 0) → vput (vval (s.take k)) = s.take k ∧ (1 < k ∨ s.getD (k - 1) 0 ≠ 0 → vval (s.take k) ≠ 0)
  | 0, k, s, h, _ => by simp [vlen] at h
  | j + 1, k, [], h, _ => by simp [vlen] at h
  | j + 1, k, b :: r, h, hz => by
    unfold vlen at h
    split at h
    · next hb =>
      cases h
      simp only [List.take_succ_cons, List.take_zero, vval, Nat.mul_zero, Nat.add_zero]
      rw [Nat.mod_eq_of_lt hb]
      refine ⟨by rw [vput_lt hb]; simp, fun hh => ?_⟩
      rcases hh with hh | hh
      · omega
      · intro e
        apply hh
        simp only [Nat.sub_self, List.getD_cons_zero]
        exact UInt8.toNat_inj.1 (by simpa using e)
    · next hb =>
      obtain ⟨i, hi, rfl⟩ := Option.map_eq_some_iff.1 h
      obtain ⟨q1, q2, q3, q4⟩ := vlen_some hi
      obtain ⟨l, rfl⟩ : ∃ l, i = l + 1 := ⟨i - 1, by omega⟩
      have hz' : r.getD l 0 ≠ 0 := by have := hz (by omega); simpa using this
      obtain ⟨e1, e2⟩ := put_vval j (l + 1) r hi (fun _ => by simpa using hz')
      have e2 := e2 (.inr (by simpa using hz'))
      have hb8 := b.toNat_lt
      rw [List.take_succ_cons]
      simp only [vval]
      refine ⟨?_, fun _ => by omega⟩
      rw [vput_ge (by omega)]
      have a1 : (b.toNat % 128 + 128 * vval (r.take (l + 1))) % 128 + 128 = b.toNat := by omega
      have a2 : (b.toNat % 128 + 128 * vval (r.take (l + 1))) / 128 = vval (r.take (l + 1)) := by omega
      rw [a1, a2, e1]; simp
structure VOk (s : List UInt8) (n k : Nat) : Prop where
  pos : 1 ≤ k
  ten : k ≤ 10
  len : k ≤ s.length
  lt : n < 18446744073709551616
  put : vput n = s.take k
theorem vget_ok {s : List UInt8} (h : (vget s).2.2 = 0) : VOk s (vget s).1 (vget s).2.1 := by
  unfold vget at h ⊢
  cases hv : vlen 10 s with
  | none =>
    rw [hv] at h
    simp only at h
    split at h <;> cases h
  | some k =>
    rw [hv] at h
    simp only at h ⊢
    obtain ⟨v1, v2, v3, v4⟩ := vlen_some hv
    by_cases hb : vbad k (s.getD (k - 1) 0).toNat = 0
    · simp only [hb, ne_eq, not_true_eq_false, if_false]
      have hz : 1 < k → s.getD (k - 1) 0 ≠ 0 := by
        intro h1 h2
        unfold vbad at hb
        rw [h2] at hb
        split at hb
        · cases hb
        · rw [if_pos ⟨h1, rfl⟩] at hb; cases hb
      refine ⟨v1, v2, v3, ?_, (put_vval 10 k s hv hz).1⟩
      have e : s.take k = s.take (k - 1) ++ [s.getD (k - 1) 0] := by
        obtain ⟨j, rfl⟩ : ∃ j, k = j + 1 := ⟨k - 1, by omega⟩
        have : j < s.length := by omega
        simp [List.getD, this]
      have h2 := vval_lt (s.take (k - 1))
      rw [e, vval_snoc, List.length_take, Nat.min_eq_left (by omega)]
      rw [List.length_take, Nat.min_eq_left (by omega)] at h2
      rcases Nat.lt_or_ge k 10 with h3 | h3
      · have hq : (128 : Nat) ^ (k - 1) ≤ 128 ^ 8 := Nat.pow_le_pow_right (by omega) (by omega)
        have hq2 : 128 ^ (k - 1) * ((s.getD (k - 1) 0).toNat % 128) ≤ 128 ^ (k - 1) * 127 := Nat.mul_le_mul_left _ (by omega)
        omega
      · have hK10 : k = 10 := by omega
        have hb1 : (s.getD (k - 1) 0).toNat ≤ 1 := by
          unfold vbad at hb
          split at hb
          · cases hb
          · next h => omega
        have hq : (128 : Nat) ^ (k - 1) = 128 ^ 9 := by rw [hK10]
        have hq2 : 128 ^ (k - 1) * ((s.getD (k - 1) 0).toNat % 128) ≤ 128 ^ (k - 1) * 1 := Nat.mul_le_mul_left _ (by omega)
        omega
    · simp only [hb, ne_eq, not_false_eq_true, if_true] at h
theorem vget_err {s : List UInt8} (h : (vget s).2.2 ≠ 0) : (vget s).1 = 0 ∧ (vget s).2.1 = 0 := by
  unfold vget at h ⊢
  cases hv : vlen 10 s with
  | none => exact ⟨rfl, rfl⟩
  | some k =>
    rw [hv] at h
    simp only at h ⊢
    by_cases hb : vbad k (s.getD (k - 1) 0).toNat = 0
    · simp only [hb, ne_eq, not_true_eq_false, if_false] at h
    · simp only [hb, ne_eq, not_false_eq_true, if_true]
      exact ⟨trivial, trivial⟩
/-- Taken of a cursor. -/
theorem vnextP (t : List UInt8) (at' : Nat) (h : at' ≤ t.length) (ht : t.length ≤ 140737488351232) :
    TT.lim 27 [.s t, .i .i64 at'] = some [.i .i64 0, .i .u64 ((vget (t.drop at')).1 : Nat), .i .i64 (vget (t.drop at')).2.2, .s t, .i .i64 ((at' + (vget (t.drop at')).2.1 : Nat) : Int)] := by
  have k := getP (t.drop at') (by rw [List.length_drop]; omega)
  have hd : (t.take t.length).drop at' = t.drop at' := by rw [List.take_length]
  have h1 : (at' : Int) ≤ t.length := by omega
  refine tree_lim rfl rfl ?_
  by_cases he : (vget (t.drop at')).2.2 = 0
  · have hv := vget_ok he
    have hl := hv.len
    have h10 := hv.ten
    rw [List.length_drop] at hl
    generalize (vget (t.drop at')).1 = n at *
    generalize (vget (t.drop at')).2.1 = j at *
    generalize (vget (t.drop at')).2.2 = e at *
    have w1 := wrapu64 (n := (j : Int)) (by omega) (by omega)
    have w2 := wrap64 (n := (t.length : Int) - (at' : Int)) (by omega) (by omega)
    have w3 := wrapu64 (n := (t.length : Int) - (at' : Int)) (by omega) (by omega)
    have w4 := wrap64 (n := (j : Int)) (by omega) (by omega)
    have w5 := wrap64 (n := (at' : Int) + (j : Int)) (by omega) (by omega)
    have c1 : ¬ ((t.length : Int) - (at' : Int) < (j : Int)) := by omega
    have c2 : (at' : Int) ≤ (at' : Int) + (j : Int) ∧ (at' : Int) + (j : Int) ≤ t.length := by omega
    subst he
    simp [hd, h1, k, w1, w2, w3, w4, w5, c1, c2]
  · obtain ⟨e1, e2⟩ := vget_err he
    rw [e1, e2] at k ⊢
    generalize (vget (t.drop at')).2.2 = e at *
    simp [hd, h1, k, he]
def pfail (e : Int) : List UInt8 × Nat × Int := ([], 0, e)
/-- The text that stands next, how many bytes it took, and the code. -/
def pnext (s a0 : List UInt8) (first : Bool) : List UInt8 × Nat × Int :=
  let a := if first = true then [] else a0
  let v := vget s
  if v.2.2 ≠ 0 then pfail v.2.2 else
  if a.length < v.1 then pfail 23 else
  let v2 := vget (s.drop v.2.1)
  if v2.2.2 ≠ 0 then pfail v2.2.2 else
  if s.length - (v.2.1 + v2.2.1) < v2.1 then pfail 1 else
  let t := a.take v.1 ++ (s.drop (v.2.1 + v2.2.1)).take v2.1
  if first = false ∧ Op.bytesLess a t = false then pfail 7 else
  if v.1 < common a t then pfail 23 else (t, v.2.1 + v2.2.1 + v2.1, 0)
theorem le_of_less (a t : List UInt8) : (Op.bytesLess t a || t == a) = !(Op.bytesLess a t) := by
  rw [bytesLess_lt, bytesLess_lt, Bool.eq_iff_iff]
  simp only [Bool.or_eq_true, decide_eq_true_iff, beq_iff_eq, Bool.not_eq_true', decide_eq_false_iff_not]
  constructor
  · rintro (h | h) h2
    · exact List.lt_irrefl _ (List.lt_trans h h2)
    · subst h; exact List.lt_irrefl _ h2
  · intro h
    by_cases h1 : t < a
    · exact .inl h1
    · exact .inr (List.le_antisymm (List.not_lt.1 h) (List.not_lt.1 h1))
theorem common_ge : ∀ (k : Nat) (a x : List UInt8), k ≤ a.length → k ≤ common a (a.take k ++ x)
  | 0, a, x, h => by omega
  | k + 1, [], x, h => by simp at h
  | k + 1, b :: a, x, h => by
    rw [List.take_succ_cons, List.cons_append]
    unfold common
    rw [if_pos rfl]
    have := common_ge k a x (by simpa using h)
    omega
theorem pnextP (t a : List UInt8) (first : Bool) (at' : Nat) (h : at' ≤ t.length) (ht : t.length ≤ 1000000) (ha : a.length ≤ 1000000) :
    ∃ at2 : Nat, TT.lim 26 [.s t, .s a, .b first, .i .i64 at'] = some [.i .i64 0, .s (pnext (t.drop at') a first).1, .i .i64 (pnext (t.drop at') a first).2.2, .s t, .i .i64 at2] ∧
      ((pnext (t.drop at') a first).2.2 = 0 → at2 = at' + (pnext (t.drop at') a first).2.1) := by
  have k1 := vnextP t at' h (by omega)
  by_cases he : (vget (t.drop at')).2.2 = 0
  rotate_left
  · obtain ⟨e1, e2⟩ := vget_err he
    have hp : pnext (t.drop at') a first = pfail (vget (t.drop at')).2.2 := by unfold pnext; simp only; rw [if_pos he]
    rw [e1, e2] at k1
    rw [hp]
    clear e1 e2 hp
    generalize (vget (t.drop at')).2.2 = e at *
    refine ⟨at', tree_lim rfl rfl ?_, fun h => absurd h he⟩
    cases first <;> simp [k1, he, pfail]
  have hv := vget_ok he
  have hl := hv.len
  have h64 := hv.lt
  have h10 := hv.ten
  rw [List.length_drop] at hl
  have hpn : ∀ a' : List UInt8, a' = (if first = true then [] else a) → pnext (t.drop at') a first = (if a'.length < (vget (t.drop at')).1 then pfail 23 else
      if (vget (t.drop (at' + (vget (t.drop at')).2.1))).2.2 ≠ 0 then pfail (vget (t.drop (at' + (vget (t.drop at')).2.1))).2.2 else
      if (t.length - at') - ((vget (t.drop at')).2.1 + (vget (t.drop (at' + (vget (t.drop at')).2.1))).2.1) < (vget (t.drop (at' + (vget (t.drop at')).2.1))).1 then pfail 1 else
      if first = false ∧ Op.bytesLess a' (a'.take (vget (t.drop at')).1 ++ (t.drop (at' + ((vget (t.drop at')).2.1 + (vget (t.drop (at' + (vget (t.drop at')).2.1))).2.1))).take (vget (t.drop (at' + (vget (t.drop at')).2.1))).1) = false then pfail 7 else
      if (vget (t.drop at')).1 < common a' (a'.take (vget (t.drop at')).1 ++ (t.drop (at' + ((vget (t.drop at')).2.1 + (vget (t.drop (at' + (vget (t.drop at')).2.1))).2.1))).take (vget (t.drop (at' + (vget (t.drop at')).2.1))).1) then pfail 23 else
      (a'.take (vget (t.drop at')).1 ++ (t.drop (at' + ((vget (t.drop at')).2.1 + (vget (t.drop (at' + (vget (t.drop at')).2.1))).2.1))).take (vget (t.drop (at' + (vget (t.drop at')).2.1))).1, (vget (t.drop at')).2.1 + (vget (t.drop (at' + (vget (t.drop at')).2.1))).2.1 + (vget (t.drop (at' + (vget (t.drop at')).2.1))).1, 0)) := by
    intro a' ha'
    unfold pnext
    simp only [List.drop_drop, List.length_drop, ← ha', he, ne_eq, not_true_eq_false, if_false]
  rw [he] at k1
  have k2 := vnextP t (at' + (vget (t.drop at')).2.1) (by omega) (by omega)
  have hv2 := fun h => vget_ok (s := t.drop (at' + (vget (t.drop at')).2.1)) h
  have hv3 := fun h => vget_err (s := t.drop (at' + (vget (t.drop at')).2.1)) h
  generalize hv0 : vget (t.drop at') = v at *
  obtain ⟨n, i, e⟩ := v
  simp only at *
  generalize hv1 : vget (t.drop (at' + i)) = v2 at *
  obtain ⟨m, j, e2⟩ := v2
  simp only at *
  clear hv0 hv1 hv
  subst he
  simp only [Int.natCast_add] at k1 k2
  -- whichever is ahead
  cases first with
  | true =>
    have hp := hpn [] rfl
    rw [hp]
    clear hp hpn
    by_cases c1 : 0 < n
    · have c1' : (0 : Int) < n := by omega
      rw [if_pos (by simpa using c1)]
      refine ⟨at' + i, tree_lim rfl rfl ?_, fun h => by cases h⟩
      simp [k1, c1, c1', pfail]
    have c1' : ¬ (0 : Int) < n := by omega
    rw [if_neg (by simpa using c1)]
    by_cases c2 : e2 = 0
    rotate_left
    · obtain ⟨q1, q2⟩ := hv3 c2
      subst q1; subst q2
      rw [if_pos c2]
      refine ⟨at' + i, tree_lim rfl rfl ?_, fun h => absurd h c2⟩
      simp [k1, k2, c1, c1', c2, pfail]
    subst c2
    obtain ⟨q1, q2, q3, q4, _⟩ := hv2 rfl
    rw [List.length_drop] at q3
    rw [if_neg (by simp)]
    have w2 := wrap64 (n := (t.length : Int) - ((at' : Int) + (i : Int) + (j : Int))) (by omega) (by omega)
    have w3 := wrapu64 (n := (t.length : Int) - ((at' : Int) + (i : Int) + (j : Int))) (by omega) (by omega)
    by_cases c3 : t.length - at' - (i + j) < m
    · have c3' : (t.length : Int) - ((at' : Int) + (i : Int) + (j : Int)) < (m : Int) := by omega
      rw [if_pos c3]
      refine ⟨at' + i + j, tree_lim rfl rfl ?_, fun h => by cases h⟩
      simp [k1, k2, c1, c1', w2, w3, c3', pfail]
    have c3' : ¬ (t.length : Int) - ((at' : Int) + (i : Int) + (j : Int)) < (m : Int) := by omega
    rw [if_neg c3, if_neg (by simp)]
    have n0 : n = 0 := by omega
    subst n0
    have hc : common [] ([] ++ (t.drop (at' + (i + j))).take m) = 0 := common_nil _
    have w4 := wrap64 (n := (m : Int)) (by omega) (by omega)
    have w5 := wrap64 (n := (at' : Int) + (i : Int) + (j : Int) + (m : Int)) (by omega) (by omega)
    have w0 := wrap64 (n := (0 : Int)) (by omega) (by omega)
    have ts : ((t.take (at' + i + j + m)).drop (at' + i + j)) = (t.drop (at' + (i + j))).take m := by
      rw [← Nat.add_assoc, List.drop_take]
      congr 1; omega
    have kc := comP [] ((t.drop (at' + (i + j))).take m) (by simp) (by simp; omega)
    rw [common_nil] at kc
    have c4 : (at' : Int) + (i : Int) + (j : Int) ≤ (at' : Int) + (i : Int) + (j : Int) + (m : Int) ∧ (at' : Int) + (i : Int) + (j : Int) + (m : Int) ≤ t.length := by omega
    have c5 : (0 : Int) ≤ (at' : Int) + (i : Int) + (j : Int) := by omega
    have t1 : ((at' : Int) + (i : Int) + (j : Int) + (m : Int)).toNat = at' + i + j + m := by omega
    have t2 : ((at' : Int) + (i : Int) + (j : Int)).toNat = at' + i + j := by omega
    rw [List.take_nil, if_neg (by rw [hc]; omega)]
    have hl0 : (((t.drop (at' + (i + j))).take m).length : Int) ≤ 9223372036854775807 := by
      have : ((t.drop (at' + (i + j))).take m).length ≤ t.length := by rw [List.length_take, List.length_drop]; omega
      omega
    refine ⟨at' + i + j + m, tree_lim rfl rfl ?_, fun _ => by simp only; omega⟩
    rw [List.nil_append]
    generalize (t.drop (at' + (i + j))).take m = X at *
    simp [k1, k2, w0, w2, w3, w4, w5, c3', c4, c5, t1, t2, ts, kc, hl0]
  | false =>
    have hp := hpn a rfl
    rw [hp]
    clear hp hpn
    have wa := wrapu64 (n := (a.length : Int)) (by omega) (by omega)
    by_cases c1 : a.length < n
    · have c1' : (a.length : Int) < n := by omega
      rw [if_pos c1]
      refine ⟨at' + i, tree_lim rfl rfl ?_, fun h => by cases h⟩
      simp [k1, c1, c1', wa, pfail]
    have c1' : ¬ (a.length : Int) < n := by omega
    rw [if_neg c1]
    by_cases c2 : e2 = 0
    rotate_left
    · obtain ⟨q1, q2⟩ := hv3 c2
      subst q1; subst q2
      rw [if_pos c2]
      refine ⟨at' + i, tree_lim rfl rfl ?_, fun h => absurd h c2⟩
      simp [k1, k2, c1, c1', c2, wa, pfail]
    subst c2
    obtain ⟨q1, q2, q3, q4, _⟩ := hv2 rfl
    rw [List.length_drop] at q3
    rw [if_neg (by simp)]
    have w2 := wrap64 (n := (t.length : Int) - ((at' : Int) + (i : Int) + (j : Int))) (by omega) (by omega)
    have w3 := wrapu64 (n := (t.length : Int) - ((at' : Int) + (i : Int) + (j : Int))) (by omega) (by omega)
    by_cases c3 : t.length - at' - (i + j) < m
    · have c3' : (t.length : Int) - ((at' : Int) + (i : Int) + (j : Int)) < (m : Int) := by omega
      rw [if_pos c3]
      refine ⟨at' + i + j, tree_lim rfl rfl ?_, fun h => by cases h⟩
      simp [k1, k2, c1, c1', w2, w3, c3', wa, pfail]
    have c3' : ¬ (t.length : Int) - ((at' : Int) + (i : Int) + (j : Int)) < (m : Int) := by omega
    rw [if_neg c3]
    have w4 := wrap64 (n := (m : Int)) (by omega) (by omega)
    have w5 := wrap64 (n := (at' : Int) + (i : Int) + (j : Int) + (m : Int)) (by omega) (by omega)
    have wn := wrap64 (n := (n : Int)) (by omega) (by omega)
    have ts : ((t.take (at' + i + j + m)).drop (at' + i + j)) = (t.drop (at' + (i + j))).take m := by
      rw [← Nat.add_assoc, List.drop_take]
      congr 1; omega
    have hlx : ((t.drop (at' + (i + j))).take m).length ≤ t.length := by rw [List.length_take, List.length_drop]; omega
    have kc := comP a (a.take n ++ (t.drop (at' + (i + j))).take m) (by omega) (by rw [List.length_append, List.length_take]; omega)
    have c4 : (at' : Int) + (i : Int) + (j : Int) ≤ (at' : Int) + (i : Int) + (j : Int) + (m : Int) ∧ (at' : Int) + (i : Int) + (j : Int) + (m : Int) ≤ t.length := by omega
    have c5 : (0 : Int) ≤ (at' : Int) + (i : Int) + (j : Int) := by omega
    have c6 : (n : Int) ≤ a.length := by omega
    have t1 : ((at' : Int) + (i : Int) + (j : Int) + (m : Int)).toNat = at' + i + j + m := by omega
    have t2 : ((at' : Int) + (i : Int) + (j : Int)).toNat = at' + i + j := by omega
    have hlm : (min n a.length : Nat) = n := by omega
    have hl0 : (n : Int) + (((t.drop (at' + (i + j))).take m).length : Int) ≤ 9223372036854775807 := by omega
    have hle := le_of_less a (a.take n ++ (t.drop (at' + (i + j))).take m)
    generalize (t.drop (at' + (i + j))).take m = X at *
    by_cases c7 : Op.bytesLess a (a.take n ++ X) = false
    · rw [if_pos ⟨rfl, c7⟩]
      rw [c7] at hle
      refine ⟨at' + i + j + m, tree_lim rfl rfl ?_, fun h => by cases h⟩
      have hle' : (Op.bytesLess (a.take n ++ X) a = true ∨ a.take n ++ X = a) = True := eq_true (by simpa using hle)
      simp [k1, k2, wa, wn, w2, w3, w4, w5, c1', c3', c4, c5, c6, t1, t2, ts, hl0, hlm, hle', pfail]
    · rw [if_neg (fun h => c7 h.2)]
      have c7 : Op.bytesLess a (a.take n ++ X) = true := by simpa using c7
      rw [c7] at hle
      have hle' : (Op.bytesLess (a.take n ++ X) a = true ∨ a.take n ++ X = a) = False := eq_false (by simpa using hle)
      by_cases c8 : n < common a (a.take n ++ X)
      · have c8' : (n : Int) < (common a (a.take n ++ X) : Int) := by omega
        rw [if_pos c8]
        refine ⟨at' + i + j + m, tree_lim rfl rfl ?_, fun h => by cases h⟩
        simp [k1, k2, wa, wn, w2, w3, w4, w5, c1', c3', c4, c5, c6, t1, t2, ts, hl0, hlm, hle', kc, c8', pfail]
      · have c8' : ¬ (n : Int) < (common a (a.take n ++ X) : Int) := by omega
        rw [if_neg c8]
        refine ⟨at' + i + j + m, tree_lim rfl rfl ?_, fun _ => by simp only; omega⟩
        simp [k1, k2, wa, wn, w2, w3, w4, w5, c1', c3', c4, c5, c6, t1, t2, ts, hl0, hlm, hle', kc, c8']
theorem pnext_ok {s a : List UInt8} {first : Bool} (h : (pnext s a first).2.2 = 0) : 2 ≤ (pnext s a first).2.1 ∧ (pnext s a first).2.1 ≤ s.length ∧ (pnext s a first).1.length ≤ (if first = true then 0 else a.length) + (pnext s a first).2.1 := by
  have hA : (if first = true then 0 else a.length) = (if first = true then [] else a).length := by cases first <;> rfl
  rw [hA]
  clear hA
  unfold pnext at h ⊢
  simp only at h ⊢
  generalize (if first = true then [] else a) = a' at h ⊢
  split at h
  · next c => exact absurd h c
  next c0 =>
  rw [if_neg c0]
  split at h
  · cases h
  next c1 =>
  rw [if_neg c1]
  split at h
  · next c => exact absurd h c
  next c2 =>
  rw [if_neg c2]
  split at h
  · cases h
  next c3 =>
  rw [if_neg c3]
  split at h
  · cases h
  next c4 =>
  rw [if_neg c4]
  split at h
  · cases h
  next c5 =>
  rw [if_neg c5]
  have v1 := vget_ok (s := s) (by simpa using c0)
  have v2 := vget_ok (s := s.drop (vget s).2.1) (by simpa using c2)
  have p1 := v1.pos
  have p2 := v2.pos
  have l1 := v1.len
  have l2 := v2.len
  rw [List.length_drop] at l2
  refine ⟨by simp only; omega, by simp only; omega, ?_⟩
  simp only [List.length_append, List.length_take, List.length_drop]
  omega
/-- What the document's way hands back. -/
theorem rnextP (s a : List UInt8) (first : Bool) (hs : s.length ≤ 1000000) (ha : a.length ≤ 1000000) :
    TT.lim 32 [.s s, .s a, .b first] = some [.s (pnext s a first).1, .s (if (pnext s a first).2.2 = 0 then s.drop (pnext s a first).2.1 else []), .i .i64 (pnext s a first).2.2] := by
  have k1 := rgetP s (by omega)
  by_cases he : (vget s).2.2 = 0
  rotate_left
  · have hp : pnext s a first = pfail (vget s).2.2 := by unfold pnext; simp only; rw [if_pos he]
    rw [hp]
    clear hp
    generalize (vget s).2.2 = e at *
    refine fn_lim rfl (by cases first <;> rfl) ?_ (by rfl)
    simp [k1, he, pfail]
  have hv := vget_ok he
  have hl := hv.len
  have h64 := hv.lt
  have h10 := hv.ten
  have k2 := rgetP (s.drop (vget s).2.1) (by rw [List.length_drop]; omega)
  have hd : (s.take s.length).drop (vget s).2.1 = s.drop (vget s).2.1 := by rw [List.take_length]
  have hpn : ∀ a' : List UInt8, a' = (if first = true then [] else a) → pnext s a first = (if a'.length < (vget s).1 then pfail 23 else
      if (vget (s.drop (vget s).2.1)).2.2 ≠ 0 then pfail (vget (s.drop (vget s).2.1)).2.2 else
      if s.length - ((vget s).2.1 + (vget (s.drop (vget s).2.1)).2.1) < (vget (s.drop (vget s).2.1)).1 then pfail 1 else
      if first = false ∧ Op.bytesLess a' (a'.take (vget s).1 ++ (s.drop ((vget s).2.1 + (vget (s.drop (vget s).2.1)).2.1)).take (vget (s.drop (vget s).2.1)).1) = false then pfail 7 else
      if (vget s).1 < common a' (a'.take (vget s).1 ++ (s.drop ((vget s).2.1 + (vget (s.drop (vget s).2.1)).2.1)).take (vget (s.drop (vget s).2.1)).1) then pfail 23 else
      (a'.take (vget s).1 ++ (s.drop ((vget s).2.1 + (vget (s.drop (vget s).2.1)).2.1)).take (vget (s.drop (vget s).2.1)).1, (vget s).2.1 + (vget (s.drop (vget s).2.1)).2.1 + (vget (s.drop (vget s).2.1)).1, 0)) := by
    intro a' ha'
    unfold pnext
    simp only [List.drop_drop, List.length_drop, ← ha', he, ne_eq, not_true_eq_false, if_false]
  rw [he] at k1
  have hv2 := fun h => vget_ok (s := s.drop (vget s).2.1) h
  have hv3 := fun h => vget_err (s := s.drop (vget s).2.1) h
  generalize hv0 : vget s = v at *
  obtain ⟨n, i, e⟩ := v
  simp only at *
  generalize hv1 : vget (s.drop i) = v2 at *
  obtain ⟨m, j, e2⟩ := v2
  simp only at *
  clear hv0 hv1 hv
  subst he
  have i1 : (i : Int) ≤ s.length := by omega
  have wa := wrapu64 (n := (a.length : Int)) (by omega) (by omega)
  cases first with
  | true =>
    have hp := hpn [] rfl
    rw [hp]
    clear hp hpn
    by_cases c1 : n = 0
    rotate_left
    · rw [if_pos (by simp; omega)]
      refine fn_lim rfl rfl ?_ rfl
      simp [k1, c1, pfail]
    subst c1
    have c1' : ¬ (a.length : Int) < 0 := by omega
    rw [if_neg (by simp)]
    by_cases c2 : e2 = 0
    rotate_left
    · rw [if_pos c2]
      refine fn_lim rfl rfl ?_ rfl
      simp [k1, k2, hd, i1, wa, c1', c2, pfail]
    subst c2
    obtain ⟨q1, q2, q3, q4, _⟩ := hv2 rfl
    rw [List.length_drop] at q3
    rw [if_neg (by simp)]
    have w1 := wrap64 (n := (i : Int) + (j : Int)) (by omega) (by omega)
    have w2 := wrap64 (n := (s.length : Int) - ((i : Int) + (j : Int))) (by omega) (by omega)
    have w3 := wrapu64 (n := (s.length : Int) - ((i : Int) + (j : Int))) (by omega) (by omega)
    by_cases c3 : s.length - (i + j) < m
    · have c3' : (s.length : Int) - ((i : Int) + (j : Int)) < (m : Int) := by omega
      rw [if_pos c3]
      refine fn_lim rfl rfl ?_ rfl
      simp [k1, k2, hd, i1, wa, c1', w1, w2, w3, c3', pfail]
    have c3' : ¬ (s.length : Int) - ((i : Int) + (j : Int)) < (m : Int) := by omega
    rw [if_neg c3, if_neg (by simp)]
    have hc : common [] ([] ++ (s.drop (i + j)).take m) = 0 := common_nil _
    have w4 := wrap64 (n := (m : Int)) (by omega) (by omega)
    have w5 := wrap64 (n := (i : Int) + (j : Int) + (m : Int)) (by omega) (by omega)
    have w0 := wrap64 (n := (0 : Int)) (by omega) (by omega)
    have ts : ((s.take (i + j + m)).drop (i + j)) = (s.drop (i + j)).take m := by
      rw [List.drop_take]
      congr 1; omega
    have tr : ((s.take s.length).drop (i + j + m)) = s.drop (i + j + m) := by rw [List.take_length]
    have c4 : (i : Int) + (j : Int) ≤ (i : Int) + (j : Int) + (m : Int) ∧ (i : Int) + (j : Int) + (m : Int) ≤ s.length := by omega
    have c5 : (0 : Int) ≤ (i : Int) + (j : Int) := by omega
    have c6 : (0 : Int) ≤ (i : Int) + (j : Int) + (m : Int) := by omega
    have t1 : ((i : Int) + (j : Int) + (m : Int)).toNat = i + j + m := by omega
    have t2 : ((i : Int) + (j : Int)).toNat = i + j := by omega
    rw [List.take_nil, if_neg (by rw [hc]; omega)]
    have hlx : ((s.drop (i + j)).take m).length ≤ s.length := by rw [List.length_take, List.length_drop]; omega
    have hl0 : (((s.drop (i + j)).take m).length : Int) ≤ 9223372036854775807 := by omega
    refine fn_lim rfl rfl ?_ rfl
    rw [List.nil_append]
    generalize (s.drop (i + j)).take m = X at *
    generalize hY : s.drop (i + j + m) = Y at *
    simp [k1, k2, hd, i1, wa, c1', w0, w1, w2, w3, w4, w5, c3', c4, c5, c6, t1, t2, ts, tr, hY, hl0]
  | false =>
    have hp := hpn a rfl
    rw [hp]
    clear hp hpn
    by_cases c1 : a.length < n
    · have c1' : (a.length : Int) < n := by omega
      rw [if_pos c1]
      refine fn_lim rfl rfl ?_ rfl
      simp [k1, c1, c1', wa, pfail]
    have c1' : ¬ (a.length : Int) < n := by omega
    rw [if_neg c1]
    by_cases c2 : e2 = 0
    rotate_left
    · rw [if_pos c2]
      refine fn_lim rfl rfl ?_ rfl
      simp [k1, k2, hd, i1, c1', c2, wa, pfail]
    subst c2
    obtain ⟨q1, q2, q3, q4, _⟩ := hv2 rfl
    rw [List.length_drop] at q3
    rw [if_neg (by simp)]
    have w1 := wrap64 (n := (i : Int) + (j : Int)) (by omega) (by omega)
    have w2 := wrap64 (n := (s.length : Int) - ((i : Int) + (j : Int))) (by omega) (by omega)
    have w3 := wrapu64 (n := (s.length : Int) - ((i : Int) + (j : Int))) (by omega) (by omega)
    by_cases c3 : s.length - (i + j) < m
    · have c3' : (s.length : Int) - ((i : Int) + (j : Int)) < (m : Int) := by omega
      rw [if_pos c3]
      refine fn_lim rfl rfl ?_ rfl
      simp [k1, k2, hd, i1, c1', w1, w2, w3, c3', wa, pfail]
    have c3' : ¬ (s.length : Int) - ((i : Int) + (j : Int)) < (m : Int) := by omega
    rw [if_neg c3]
    have w4 := wrap64 (n := (m : Int)) (by omega) (by omega)
    have w5 := wrap64 (n := (i : Int) + (j : Int) + (m : Int)) (by omega) (by omega)
    have wn := wrap64 (n := (n : Int)) (by omega) (by omega)
    have ts : ((s.take (i + j + m)).drop (i + j)) = (s.drop (i + j)).take m := by
      rw [List.drop_take]
      congr 1; omega
    have tr : ((s.take s.length).drop (i + j + m)) = s.drop (i + j + m) := by rw [List.take_length]
    have hlx : ((s.drop (i + j)).take m).length ≤ s.length := by rw [List.length_take, List.length_drop]; omega
    have hla : (a.take n ++ (s.drop (i + j)).take m).length ≤ 2000000 := by rw [List.length_append, List.length_take]; omega
    have kc := rcomP a (a.take n ++ (s.drop (i + j)).take m) (by omega) (by omega)
    have kl := less79 a (a.take n ++ (s.drop (i + j)).take m) (by omega) (by omega)
    have hge := common_ge n a ((s.drop (i + j)).take m) (by omega)
    have c4 : (i : Int) + (j : Int) ≤ (i : Int) + (j : Int) + (m : Int) ∧ (i : Int) + (j : Int) + (m : Int) ≤ s.length := by omega
    have c5 : (0 : Int) ≤ (i : Int) + (j : Int) := by omega
    have c9 : (0 : Int) ≤ (i : Int) + (j : Int) + (m : Int) := by omega
    have c6 : (n : Int) ≤ a.length := by omega
    have t1 : ((i : Int) + (j : Int) + (m : Int)).toNat = i + j + m := by omega
    have t2 : ((i : Int) + (j : Int)).toNat = i + j := by omega
    have hlm : (min n a.length : Nat) = n := by omega
    have hl0 : (n : Int) + (((s.drop (i + j)).take m).length : Int) ≤ 9223372036854775807 := by omega
    generalize (s.drop (i + j)).take m = X at *
    generalize hY : s.drop (i + j + m) = Y at *
    by_cases c7 : Op.bytesLess a (a.take n ++ X) = false
    · rw [if_pos ⟨rfl, c7⟩]
      rw [c7] at kl
      refine fn_lim rfl rfl ?_ rfl
      simp [k1, k2, hd, i1, wa, wn, w1, w2, w3, w4, w5, c1', c3', c4, c5, c6, c9, t1, t2, ts, tr, hY, hl0, hlm, kl, pfail]
    · rw [if_neg (fun h => c7 h.2)]
      have c7 : Op.bytesLess a (a.take n ++ X) = true := by simpa using c7
      rw [c7] at kl
      by_cases c8 : n < common a (a.take n ++ X)
      · have c8' : ¬ ((common a (a.take n ++ X) : Int) = n) := by omega
        have c8n : ¬ (common a (a.take n ++ X) = n) := by omega
        rw [if_pos c8]
        refine fn_lim rfl rfl ?_ rfl
        simp [k1, k2, hd, i1, wa, wn, w1, w2, w3, w4, w5, c1', c3', c4, c5, c6, c9, t1, t2, ts, tr, hY, hl0, hlm, kl, kc, c8', c8n, pfail]
      · have c8' : common a (a.take n ++ X) = n := by omega
        rw [if_neg c8]
        rw [c8'] at kc
        refine fn_lim rfl rfl ?_ rfl
        simp [k1, k2, hd, i1, wa, wn, w1, w2, w3, w4, w5, c1', c3', c4, c5, c6, c9, t1, t2, ts, tr, hY, hl0, hlm, kl, kc]
theorem oneF_len (a s : List UInt8) (hs : s.length ≤ 1000000) : (oneF a s).length ≤ 20 + s.length := by
  have hl := common_le a s
  have l1 := vput_len (n := common a s) (by omega)
  have l2 := vput_len (n := s.length - common a s) (by omega)
  unfold oneF
  simp only [List.length_append, List.length_drop]
  omega
theorem roneP (a s : List UInt8) (ha : a.length ≤ 1000000) (hs : s.length ≤ 1000000) : TT.lim 15 [.s a, .s s] = some [.s (oneF a s)] := by
  have k := rcomP a s (by omega) (by omega)
  have hl := common_le a s
  have p1 := put75 (common a s) (by omega)
  have p2 := put75 (s.length - common a s) (by omega)
  have l1 := vput_len (n := common a s) (by omega)
  have l2 := vput_len (n := s.length - common a s) (by omega)
  have w1 := wrapu64 (n := (common a s : Int)) (by omega) (by omega)
  have w2 := wrapu64 (n := (s.length : Int) - (common a s : Int)) (by omega) (by omega)
  have w3 := wrap64 (n := (s.length : Int) - (common a s : Int)) (by omega) (by omega)
  have e2 : (s.length : Int) - (common a s : Int) = ((s.length - common a s : Nat) : Int) := by omega
  rw [e2] at w2 w3
  refine fn_lim rfl rfl ?_ rfl
  unfold oneF
  generalize common a s = c at *
  have h1 : ((vput c).length : Int) + ((vput (s.length - c)).length : Int) ≤ 9223372036854775807 := by omega
  have h2 : ((vput c).length : Int) + ((vput (s.length - c)).length : Int) + ((s.length : Int) - (c : Int)) ≤ 9223372036854775807 := by omega
  have h3 : (c : Int) ≤ s.length := by omega
  have h4 : ((s.length - c : Nat) : Int) = (s.length : Int) - c := by omega
  have hd : (s.take s.length).drop c = s.drop c := by rw [List.take_length]
  rw [← e2] at w2 w3
  rw [← e2] at p2
  simp [k, p1, p2, w1, w2, w3, h1, h2, h3, h4, hd]
theorem vnextNil : TT.lim 37 [] = some [.i .i64 0] := by
  refine tree_lim rfl rfl ?_
  simp
/-- A text that stands next: the text, how many bytes it took, the code. -/
def tnext (s : List UInt8) : List UInt8 × Nat × Int :=
  if (vget s).2.2 ≠ 0 then ([], 0, (vget s).2.2) else
  if s.length - (vget s).2.1 < (vget s).1 then ([], 0, 1) else
  ((s.drop (vget s).2.1).take (vget s).1, (vget s).2.1 + (vget s).1, 0)
theorem tnext_ok {s : List UInt8} (h : (tnext s).2.2 = 0) : 1 ≤ (tnext s).2.1 ∧ (tnext s).2.1 ≤ s.length ∧ (tnext s).1.length ≤ s.length := by
  unfold tnext at h ⊢
  by_cases h1 : (vget s).2.2 = 0
  rotate_left
  · rw [if_pos h1] at h
    exact absurd h h1
  rw [if_neg (fun e => e h1)] at h ⊢
  obtain ⟨v1, v2, v3, v4, v5⟩ := vget_ok h1
  by_cases h2 : s.length - (vget s).2.1 < (vget s).1
  · rw [if_pos h2] at h; cases h
  rw [if_neg h2]
  simp only [List.length_take, List.length_drop]
  omega
theorem textP (t : List UInt8) (at' : Nat) (h : at' ≤ t.length) (ht : t.length ≤ 1000000) :
    ∃ at2 : Nat, TT.lim 90 [.s t, .i .i64 at'] = some [.i .i64 0, .s (tnext (t.drop at')).1, .i .i64 (tnext (t.drop at')).2.2, .s t, .i .i64 at2] ∧ ((tnext (t.drop at')).2.2 = 0 → at2 = at' + (tnext (t.drop at')).2.1) := by
  have k1 := vnextP t at' h (by omega)
  unfold tnext
  by_cases he : (vget (t.drop at')).2.2 = 0
  rotate_left
  · obtain ⟨e1, e2⟩ := vget_err he
    rw [e1, e2] at k1
    rw [if_pos he]
    generalize (vget (t.drop at')).2.2 = e at *
    refine ⟨at', tree_lim rfl rfl ?_, fun h => absurd h he⟩
    simp [k1, he]
  obtain ⟨v1, v2, v3, v4, _⟩ := vget_ok he
  rw [if_neg (fun e => e he)]
  rw [he] at k1
  rw [List.length_drop] at v3 ⊢
  rw [List.drop_drop]
  generalize (vget (t.drop at')).1 = n at *
  generalize (vget (t.drop at')).2.1 = i at *
  have w1 := wrap64 (n := (t.length : Int) - ((at' : Int) + (i : Int))) (by omega) (by omega)
  have w2 := wrapu64 (n := (t.length : Int) - ((at' : Int) + (i : Int))) (by omega) (by omega)
  simp only [Int.natCast_add] at k1
  by_cases c1 : t.length - at' - i < n
  · have c1' : (t.length : Int) - ((at' : Int) + (i : Int)) < (n : Int) := by omega
    rw [if_pos c1]
    refine ⟨at' + i, tree_lim rfl rfl ?_, fun h => by cases h⟩
    simp [k1, w1, w2, c1']
  · have c1' : ¬ (t.length : Int) - ((at' : Int) + (i : Int)) < (n : Int) := by omega
    rw [if_neg c1]
    have w3 := wrap64 (n := (n : Int)) (by omega) (by omega)
    have w4 := wrap64 (n := (at' : Int) + (i : Int) + (n : Int)) (by omega) (by omega)
    have ts : ((t.take (at' + i + n)).drop (at' + i)) = (t.drop (at' + i)).take n := by
      rw [List.drop_take]
      congr 1; omega
    have c2 : (at' : Int) + (i : Int) ≤ (at' : Int) + (i : Int) + (n : Int) ∧ (at' : Int) + (i : Int) + (n : Int) ≤ t.length := by omega
    have c3 : (0 : Int) ≤ (at' : Int) + (i : Int) := by omega
    have t1 : ((at' : Int) + (i : Int) + (n : Int)).toNat = at' + i + n := by omega
    have t2 : ((at' : Int) + (i : Int)).toNat = at' + i := by omega
    generalize (t.drop (at' + i)).take n = X at *
    refine ⟨at' + i + n, tree_lim rfl rfl ?_, fun _ => by simp only; omega⟩
    simp [k1, w1, w2, w3, w4, c1', c2, c3, t1, t2, ts]
theorem rtextP (s : List UInt8) (hs : s.length ≤ 1000000) : TT.lim 98 [.s s] = some [.s (tnext s).1, .s (if (tnext s).2.2 = 0 then s.drop (tnext s).2.1 else []), .i .i64 (tnext s).2.2] := by
  have k1 := rgetP s (by omega)
  unfold tnext
  by_cases he : (vget s).2.2 = 0
  rotate_left
  · rw [if_pos he]
    generalize (vget s).2.2 = e at *
    refine fn_lim rfl rfl ?_ (by rfl)
    simp [k1, he]
  obtain ⟨v1, v2, v3, v4, _⟩ := vget_ok he
  rw [if_neg (fun e => e he)]
  rw [he] at k1
  generalize (vget s).1 = n at *
  generalize (vget s).2.1 = i at *
  have w1 := wrap64 (n := (s.length : Int) - (i : Int)) (by omega) (by omega)
  have w2 := wrapu64 (n := (s.length : Int) - (i : Int)) (by omega) (by omega)
  by_cases c1 : s.length - i < n
  · have c1' : (s.length : Int) - (i : Int) < (n : Int) := by omega
    rw [if_pos c1]
    refine fn_lim rfl rfl ?_ rfl
    simp [k1, w1, w2, c1']
  · have c1' : ¬ (s.length : Int) - (i : Int) < (n : Int) := by omega
    rw [if_neg c1]
    have w3 := wrap64 (n := (n : Int)) (by omega) (by omega)
    have w4 := wrap64 (n := (i : Int) + (n : Int)) (by omega) (by omega)
    have ts : ((s.take (i + n)).drop i) = (s.drop i).take n := by
      rw [List.drop_take]
      congr 1; omega
    have tr : (s.take s.length).drop (i + n) = s.drop (i + n) := by rw [List.take_length]
    have c2 : (i : Int) ≤ (i : Int) + (n : Int) ∧ (i : Int) + (n : Int) ≤ s.length := by omega
    have c3 : (0 : Int) ≤ (i : Int) + (n : Int) := by omega
    have c4 : i ≤ i + n := by omega
    have c5 : (i : Int) + (n : Int) ≤ s.length := by omega
    have t1 : ((i : Int) + (n : Int)).toNat = i + n := by omega
    generalize (s.drop i).take n = X at *
    generalize hY : s.drop (i + n) = Y at *
    refine fn_lim rfl rfl ?_ rfl
    simp [k1, w1, w2, w3, w4, c1', c2, c3, c5, t1, ts, tr, hY]
/-- An entry that stands next. -/
def enext (s : List UInt8) : Ent × Nat × Int :=
  if (tnext s).2.2 ≠ 0 then (([], []), 0, (tnext s).2.2) else
  if (tnext (s.drop (tnext s).2.1)).2.2 ≠ 0 then (([], []), 0, (tnext (s.drop (tnext s).2.1)).2.2) else
  if entChk ((tnext s).1, (tnext (s.drop (tnext s).2.1)).1) ≠ 0 then (([], []), 0, entChk ((tnext s).1, (tnext (s.drop (tnext s).2.1)).1)) else
  (((tnext s).1, (tnext (s.drop (tnext s).2.1)).1), (tnext s).2.1 + (tnext (s.drop (tnext s).2.1)).2.1, 0)
theorem enext_ok {s : List UInt8} (h : (enext s).2.2 = 0) : 2 ≤ (enext s).2.1 ∧ (enext s).2.1 ≤ s.length ∧ entChk (enext s).1 = 0 ∧ (enext s).1.1.length ≤ s.length ∧ (enext s).1.2.length ≤ s.length ∧
    (tnext s).2.2 = 0 ∧ (tnext (s.drop (tnext s).2.1)).2.2 = 0 ∧ (enext s).1 = ((tnext s).1, (tnext (s.drop (tnext s).2.1)).1) ∧ (enext s).2.1 = (tnext s).2.1 + (tnext (s.drop (tnext s).2.1)).2.1 := by
  unfold enext at h ⊢
  by_cases h1 : (tnext s).2.2 = 0
  rotate_left
  · rw [if_pos h1] at h; exact absurd h h1
  rw [if_neg (fun e => e h1)] at h ⊢
  by_cases h2 : (tnext (s.drop (tnext s).2.1)).2.2 = 0
  rotate_left
  · rw [if_pos h2] at h; exact absurd h h2
  rw [if_neg (fun e => e h2)] at h ⊢
  by_cases h3 : entChk ((tnext s).1, (tnext (s.drop (tnext s).2.1)).1) = 0
  rotate_left
  · rw [if_pos h3] at h; exact absurd h h3
  rw [if_neg (fun e => e h3)]
  obtain ⟨a1, a2, a3⟩ := tnext_ok h1
  obtain ⟨b1, b2, b3⟩ := tnext_ok h2
  rw [List.length_drop] at b2 b3
  exact ⟨by simp only; omega, by simp only; omega, h3, a3, by simp only; omega, h1, h2, rfl, rfl⟩
theorem entNextP (t : List UInt8) (at' : Nat) (h : at' ≤ t.length) (ht : t.length ≤ 1000000) :
    ∃ at2 : Nat, TT.lim 89 [.s t, .i .i64 at'] = some [.i .i64 0, .s (enext (t.drop at')).1.1, .s (enext (t.drop at')).1.2, .i .i64 (enext (t.drop at')).2.2, .s t, .i .i64 at2] ∧ ((enext (t.drop at')).2.2 = 0 → at2 = at' + (enext (t.drop at')).2.1) := by
  obtain ⟨p, k1, e1⟩ := textP t at' h ht
  unfold enext
  by_cases h1 : (tnext (t.drop at')).2.2 = 0
  rotate_left
  · rw [if_pos h1]
    generalize tnext (t.drop at') = A at *
    refine ⟨p, tree_lim rfl rfl ?_, fun h => absurd h h1⟩
    simp [k1, h1]
  have e1 := e1 h1
  obtain ⟨a1, a2, a3⟩ := tnext_ok h1
  rw [List.length_drop] at a2 a3
  have hdd : (t.drop at').drop (tnext (t.drop at')).2.1 = t.drop p := by rw [List.drop_drop, e1]
  obtain ⟨q, k2, e2⟩ := textP t p (by omega) ht
  rw [if_neg (fun e => e h1), hdd]
  rw [h1] at k1
  by_cases h2 : (tnext (t.drop p)).2.2 = 0
  rotate_left
  · rw [if_pos h2]
    generalize tnext (t.drop at') = A at *
    generalize tnext (t.drop p) = B at *
    refine ⟨q, tree_lim rfl rfl ?_, fun h => absurd h h2⟩
    simp [k1, k2, h2]
  have e2 := e2 h2
  obtain ⟨b1, b2, b3⟩ := tnext_ok h2
  rw [List.length_drop] at b2 b3
  rw [if_neg (fun e => e h2)]
  rw [h2] at k2
  have kc := entcheck18 ((tnext (t.drop at')).1, (tnext (t.drop p)).1) (by simp only; omega) (by simp only; omega)
  have kc' : TT.lim 55 [.g [.s (tnext (t.drop at')).1, .s (tnext (t.drop p)).1]] = _ := kc
  generalize tnext (t.drop at') = A at *
  generalize tnext (t.drop p) = B at *
  by_cases h3 : entChk (A.1, B.1) = 0
  rotate_left
  · rw [if_pos h3]
    refine ⟨q, tree_lim rfl rfl ?_, fun h => absurd h h3⟩
    generalize entChk (A.1, B.1) = E at *
    simp [k1, k2, kc', h3]
  · rw [if_neg (fun e => e h3)]
    rw [h3] at kc'
    refine ⟨q, tree_lim rfl rfl ?_, fun _ => by simp only; omega⟩
    simp [k1, k2, kc']
theorem rentNextP (s : List UInt8) (hs : s.length ≤ 1000000) : TT.lim 97 [.s s] = some [ent (enext s).1, .s (if (enext s).2.2 = 0 then s.drop (enext s).2.1 else []), .i .i64 (enext s).2.2] := by
  have k1 := rtextP s hs
  unfold enext
  by_cases h1 : (tnext s).2.2 = 0
  rotate_left
  · rw [if_pos h1]
    generalize tnext s = A at *
    refine fn_lim rfl rfl ?_ (by rfl)
    simp [k1, h1]
    rfl
  obtain ⟨a1, a2, a3⟩ := tnext_ok h1
  rw [if_pos h1, h1] at k1
  have k2 := rtextP (s.drop (tnext s).2.1) (by rw [List.length_drop]; omega)
  rw [if_neg (fun e => e h1)]
  by_cases h2 : (tnext (s.drop (tnext s).2.1)).2.2 = 0
  rotate_left
  · rw [if_pos h2]
    generalize tnext (s.drop (tnext s).2.1) = B at *
    generalize s.drop (tnext s).2.1 = Y at *
    generalize tnext s = A at *
    refine fn_lim rfl rfl ?_ (by rfl)
    simp [k1, k2, h2]
    rfl
  obtain ⟨b1, b2, b3⟩ := tnext_ok h2
  rw [List.length_drop] at b2 b3
  rw [if_pos h2, h2, List.drop_drop] at k2
  rw [if_neg (fun e => e h2)]
  have kc := entcheck64 ((tnext s).1, (tnext (s.drop (tnext s).2.1)).1) (by simp only; omega) (by simp only; omega)
  have kc' : TT.lim 70 [.g [.s (tnext s).1, .s (tnext (s.drop (tnext s).2.1)).1]] = _ := kc
  generalize tnext (s.drop (tnext s).2.1) = B at *
  generalize s.drop (tnext s).2.1 = Y at *
  generalize tnext s = A at *
  by_cases h3 : entChk (A.1, B.1) = 0
  rotate_left
  · rw [if_pos h3]
    generalize entChk (A.1, B.1) = E at *
    refine fn_lim rfl rfl ?_ (by rfl)
    simp [k1, k2, kc', h3]
    rfl
  · rw [if_neg (fun e => e h3)]
    rw [h3] at kc'
    refine fn_lim rfl rfl ?_ (by rfl)
    simp [k1, k2, kc']
    rfl
def behO (p : Option Ent) (x : Ent) : Int := match p with
  | none => 0
  | some k => behE k.1 x.1
/-- Entries by rising keys: what is read, how many bytes it took, the code. -/
def dloop : Nat → Option Ent → List UInt8 → List Ent × Nat × Int
  | 0, _, _ => ([], 0, 0)
  | m + 1, p, s => if (enext s).2.2 ≠ 0 then ([], 0, (enext s).2.2) else
    if behO p (enext s).1 ≠ 0 then ([], 0, behO p (enext s).1) else
    if (dloop m (some (enext s).1) (s.drop (enext s).2.1)).2.2 ≠ 0 then ([], 0, (dloop m (some (enext s).1) (s.drop (enext s).2.1)).2.2) else
    ((enext s).1 :: (dloop m (some (enext s).1) (s.drop (enext s).2.1)).1, (enext s).2.1 + (dloop m (some (enext s).1) (s.drop (enext s).2.1)).2.1, 0)
theorem dloop_succ (m : Nat) (p : Option Ent) (s : List UInt8) : dloop (m + 1) p s = if (enext s).2.2 ≠ 0 then ([], 0, (enext s).2.2) else
    if behO p (enext s).1 ≠ 0 then ([], 0, behO p (enext s).1) else
    if (dloop m (some (enext s).1) (s.drop (enext s).2.1)).2.2 ≠ 0 then ([], 0, (dloop m (some (enext s).1) (s.drop (enext s).2.1)).2.2) else
    ((enext s).1 :: (dloop m (some (enext s).1) (s.drop (enext s).2.1)).1, (enext s).2.1 + (dloop m (some (enext s).1) (s.drop (enext s).2.1)).2.1, 0) := rfl
def outD (acc : List Ent) (t : List UInt8) (at2 : Nat) (r : List Ent × Nat × Int) : List GV := if r.2.2 ≠ 0 then [.i .i64 0, .i .i64 r.2.2, .s t, .i .i64 at2] else [.i .i64 1, .l ((acc ++ r.1).map ent), .s t, .i .i64 at2]
theorem dstepE (L : List GV) (n i at' at2 : Int) (t : List UInt8) (x : Ent) (e : Int) (h : i < n) (he : ¬ e = 0)
    (k : TT.lim 89 [.s t, .i .i64 at'] = some [.i .i64 0, .s x.1, .s x.2, .i .i64 e, .s t, .i .i64 at2]) :
    TT.lim 88 [.l L, .i .i64 n, .i .i64 i, .s t, .i .i64 at'] = some [.i .i64 0, .i .i64 e, .s t, .i .i64 at2] := by
  refine tree_lim rfl rfl ?_
  simp [h, k, he]
theorem dstep0 (L : List GV) (n at' at2 : Int) (t : List UInt8) (x : Ent) (R : List GV) (h : 0 < n) (hb : 2 * (L.length + 1) * 32 ≤ 281474976710656 ∧ L.length + 1 ≤ 281474976710656)
    (k : TT.lim 89 [.s t, .i .i64 at'] = some [.i .i64 0, .s x.1, .s x.2, .i .i64 0, .s t, .i .i64 at2])
    (ih : TT.lim 88 [.l (L ++ [ent x]), .i .i64 n, .i .i64 1, .s t, .i .i64 at2] = some R) :
    TT.lim 88 [.l L, .i .i64 n, .i .i64 0, .s t, .i .i64 at'] = some R := by
  have he : GV.g [.s x.1, .s x.2] = ent x := rfl
  have w1 := wrap64 (n := 1) (by omega) (by omega)
  refine tree_lim rfl rfl ?_
  simp [h, k, he, GV.elemOk, hb, w1, ih]
theorem dstepB (L : List GV) (n : Int) (i : Nat) (at' at2 : Int) (t : List UInt8) (p x : Ent) (h : (i : Int) + 1 < n) (hi : i + 1 ≤ 1000000) (hl : L.length = i + 1) (hg : L[i]? = some (ent p)) (hb : ¬ behE p.1 x.1 = 0)
    (k : TT.lim 89 [.s t, .i .i64 at'] = some [.i .i64 0, .s x.1, .s x.2, .i .i64 0, .s t, .i .i64 at2]) :
    TT.lim 88 [.l L, .i .i64 n, .i .i64 ((i : Int) + 1), .s t, .i .i64 at'] = some [.i .i64 0, .i .i64 (behE p.1 x.1), .s t, .i .i64 at2] := by
  have h0 : (0 : Int) < (i : Int) + 1 := by omega
  have hii : (i : Int) < (i : Int) + 1 := by omega
  have w := wrap64 (n := (i : Int)) (by omega) (by omega)
  have hgi : L[i]'(by omega) = ent p := by have := hg; rw [List.getElem?_eq_getElem (by omega)] at this; exact Option.some.inj this
  unfold behE at hb ⊢
  by_cases e1 : x.1 = p.1
  · have e1' : (x.1 = p.1) = True := eq_true e1
    clear e1
    refine tree_lim rfl rfl ?_
    simp [h, k, h0, hii, w, hl, hg, hgi, e1']
  · by_cases e2 : Op.bytesLess x.1 p.1 = true
    · refine tree_lim rfl rfl ?_
      simp [h, k, h0, hii, w, hl, hg, hgi, e1, e2]
    · simp [e1, e2] at hb
theorem dstepN (L : List GV) (n : Int) (i : Nat) (at' at2 : Int) (t : List UInt8) (p x : Ent) (R : List GV) (h : (i : Int) + 1 < n) (hi : i + 1 ≤ 1000000) (hl : (i : Int) < L.length) (hl2 : L.length ≤ 1000000) (hg : L[i]? = some (ent p)) (hb : behE p.1 x.1 = 0)
    (k : TT.lim 89 [.s t, .i .i64 at'] = some [.i .i64 0, .s x.1, .s x.2, .i .i64 0, .s t, .i .i64 at2])
    (ih : TT.lim 88 [.l (L ++ [ent x]), .i .i64 n, .i .i64 ((i : Int) + 1 + 1), .s t, .i .i64 at2] = some R) :
    TT.lim 88 [.l L, .i .i64 n, .i .i64 ((i : Int) + 1), .s t, .i .i64 at'] = some R := by
  have h0 : (0 : Int) < (i : Int) + 1 := by omega
  have hii : (i : Int) < (i : Int) + 1 := by omega
  have w := wrap64 (n := (i : Int)) (by omega) (by omega)
  have w2 := wrap64 (n := (i : Int) + 1 + 1) (by omega) (by omega)
  have hl3 : i < L.length := by omega
  have hgi : L[i] = ent p := by have := hg; rw [List.getElem?_eq_getElem hl3] at this; exact Option.some.inj this
  have he : GV.g [.s x.1, .s x.2] = ent x := rfl
  have hbb : 2 * (L.length + 1) * 32 ≤ 281474976710656 ∧ L.length + 1 ≤ 281474976710656 := by omega
  unfold behE at hb
  have e1 : ¬ x.1 = p.1 := by intro e; rw [if_pos e] at hb; exact absurd hb (by decide)
  rw [if_neg e1] at hb
  have e2 : ¬ Op.bytesLess x.1 p.1 = true := by intro e; rw [if_pos e] at hb; exact absurd hb (by decide)
  have e2 : Op.bytesLess x.1 p.1 = false := by simpa using e2
  refine tree_lim rfl rfl ?_
  simp [h, k, h0, hii, w, w2, hl, hl3, hg, hgi, e1, e2, he, GV.elemOk, hbb, ih]
/-- What is ahead. -/
def lastIs (acc : List Ent) (p : Option Ent) : Prop := (acc = [] ∧ p = none) ∨ ∃ a x, acc = a ++ [x] ∧ p = some x
theorem dloopP (t : List UInt8) (ht : t.length ≤ 1000000) (n : Nat) (hn : n ≤ 1000) : ∀ (m : Nat) (acc : List Ent) (p : Option Ent) (at' : Nat), acc.length + m = n → lastIs acc p → at' ≤ t.length →
    ∃ at2 : Nat, TT.lim 88 [.l (acc.map ent), .i .i64 n, .i .i64 acc.length, .s t, .i .i64 at'] = some (outD acc t at2 (dloop m p (t.drop at'))) ∧ ((dloop m p (t.drop at')).2.2 = 0 → at2 = at' + (dloop m p (t.drop at')).2.1)
  | 0, acc, p, at', hi, hp, h => by
    have hlt : ¬ ((acc.length : Int) < (n : Int)) := by omega
    refine ⟨at', ?_, fun _ => by simp [dloop]⟩
    have hl : (acc.map ent).length = acc.length := by simp
    unfold dloop outD
    simp only [ne_eq, not_true_eq_false, if_false, List.append_nil]
    generalize acc.map ent = L at *
    refine tree_lim rfl rfl ?_
    simp [hlt]
  | m + 1, acc, p, at', hi, hp, h => by
    obtain ⟨at2, k, e2⟩ := entNextP t at' h ht
    rw [dloop_succ]
    by_cases h1 : (enext (t.drop at')).2.2 = 0
    rotate_left
    · rw [if_pos h1]
      refine ⟨at2, ?_, fun h => absurd h h1⟩
      have : outD acc t at2 ([], 0, (enext (t.drop at')).2.2) = [.i .i64 0, .i .i64 (enext (t.drop at')).2.2, .s t, .i .i64 at2] := by unfold outD; rw [if_pos h1]
      rw [this]
      exact dstepE _ _ _ _ _ _ _ _ (by omega) h1 k
    rw [if_neg (fun e => e h1)]
    rw [h1] at k
    have e2 := e2 h1
    obtain ⟨a1, a2, _⟩ := enext_ok h1
    rw [List.length_drop] at a2
    have hdd : (t.drop at').drop (enext (t.drop at')).2.1 = t.drop at2 := by rw [List.drop_drop, e2]
    rw [hdd]
    have hat : at2 ≤ t.length := by omega
    generalize hX : (enext (t.drop at')).1 = x at *
    obtain ⟨at3, ih, e3⟩ := dloopP t ht n hn m (acc ++ [x]) (some x) at2 (by rw [List.length_append, List.length_singleton]; omega) (.inr ⟨acc, x, rfl, rfl⟩) hat
    have hout : outD acc t at3 (if (dloop m (some x) (t.drop at2)).2.2 ≠ 0 then ([], 0, (dloop m (some x) (t.drop at2)).2.2) else (x :: (dloop m (some x) (t.drop at2)).1, (enext (t.drop at')).2.1 + (dloop m (some x) (t.drop at2)).2.1, 0)) = outD (acc ++ [x]) t at3 (dloop m (some x) (t.drop at2)) := by
      unfold outD
      by_cases hq : (dloop m (some x) (t.drop at2)).2.2 = 0
      · simp [hq]
      · simp [hq]
    have hfin : ((if (dloop m (some x) (t.drop at2)).2.2 ≠ 0 then (([] : List Ent), 0, (dloop m (some x) (t.drop at2)).2.2) else (x :: (dloop m (some x) (t.drop at2)).1, (enext (t.drop at')).2.1 + (dloop m (some x) (t.drop at2)).2.1, 0)).2.2 = 0 → at3 = at' + (if (dloop m (some x) (t.drop at2)).2.2 ≠ 0 then (([] : List Ent), 0, (dloop m (some x) (t.drop at2)).2.2) else (x :: (dloop m (some x) (t.drop at2)).1, (enext (t.drop at')).2.1 + (dloop m (some x) (t.drop at2)).2.1, 0)).2.1) := by
      by_cases hq : (dloop m (some x) (t.drop at2)).2.2 = 0
      · rw [if_neg (fun e => e hq)]
        intro _
        have := e3 hq
        simp only
        omega
      · rw [if_pos hq]
        intro h
        exact absurd h hq
    rw [List.map_append] at ih
    rcases hp with ⟨rfl, rfl⟩ | ⟨a, y, rfl, rfl⟩
    · have hb0 : behO none x = 0 := rfl
      rw [hb0, if_neg (by simp)]
      refine ⟨at3, ?_, hfin⟩
      rw [hout]
      exact dstep0 [] n at' at2 t x _ (by simp at hi; omega) (by simp) k ih
    · by_cases hb : behE y.1 x.1 = 0
      rotate_left
      · have hb' : behO (some y) x ≠ 0 := hb
        rw [if_pos hb']
        refine ⟨at2, ?_, fun h => absurd h hb⟩
        have : outD (a ++ [y]) t at2 ([], 0, behO (some y) x) = [.i .i64 0, .i .i64 (behE y.1 x.1), .s t, .i .i64 at2] := by unfold outD; rw [if_pos hb']; rfl
        rw [this]
        have hl : ((a ++ [y]).length : Int) = (a.length : Int) + 1 := by simp
        rw [hl]
        rw [List.length_append, List.length_singleton] at hi
        exact dstepB _ n a.length at' at2 t y x (by omega) (by omega) (by simp) (by simp) hb k
      · have hb' : ¬ behO (some y) x ≠ 0 := fun e => e hb
        rw [if_neg hb']
        refine ⟨at3, ?_, hfin⟩
        rw [hout]
        have hl : ((a ++ [y]).length : Int) = (a.length : Int) + 1 := by simp
        have hl2 : ((a ++ [y] ++ [x]).length : Int) = (a.length : Int) + 1 + 1 := by simp; omega
        rw [hl]
        rw [hl2] at ih
        rw [List.length_append, List.length_singleton] at hi
        exact dstepN _ n a.length at' at2 t y x _ (by omega) (by omega) (by simp; omega) (by simp; omega) (by simp) hb k ih
def dfail (e : Int) : List Ent × Nat × Int := ([], 0, e)
/-- A descriptor that stands next. -/
def dnext (s : List UInt8) : List Ent × Nat × Int :=
  if (vget s).2.2 ≠ 0 then dfail (vget s).2.2 else
  if (vget s).1 = 0 then dfail 12 else
  if 16 < (vget s).1 then dfail 13 else
  if (dloop (vget s).1 none (s.drop (vget s).2.1)).2.2 ≠ 0 then dfail (dloop (vget s).1 none (s.drop (vget s).2.1)).2.2 else
  ((dloop (vget s).1 none (s.drop (vget s).2.1)).1, (vget s).2.1 + (dloop (vget s).1 none (s.drop (vget s).2.1)).2.1, 0)
theorem dnextP (t : List UInt8) (at' : Nat) (h : at' ≤ t.length) (ht : t.length ≤ 1000000) :
    ∃ at2 : Nat, TT.lim 87 [.s t, .i .i64 at'] = some [.i .i64 0, .l ((dnext (t.drop at')).1.map ent), .i .i64 (dnext (t.drop at')).2.2, .s t, .i .i64 at2] ∧ ((dnext (t.drop at')).2.2 = 0 → at2 = at' + (dnext (t.drop at')).2.1) := by
  have k1 := vnextP t at' h (by omega)
  unfold dnext
  by_cases he : (vget (t.drop at')).2.2 = 0
  rotate_left
  · obtain ⟨e1, e2⟩ := vget_err he
    rw [e1, e2] at k1
    rw [if_pos he]
    generalize (vget (t.drop at')).2.2 = e at *
    refine ⟨at', tree_lim rfl rfl ?_, fun h => absurd h he⟩
    simp [k1, he, dfail]
  obtain ⟨v1, v2, v3, v4, _⟩ := vget_ok he
  rw [if_neg (fun e => e he)]
  rw [he] at k1
  rw [List.length_drop] at v3
  rw [List.drop_drop]
  by_cases h16 : 16 < (vget (t.drop at')).1
  · have h0 : ¬ (vget (t.drop at')).1 = 0 := by omega
    have h16' : (16 : Int) < ((vget (t.drop at')).1 : Nat) := by omega
    rw [if_neg h0, if_pos h16]
    generalize (vget (t.drop at')).1 = n at *
    generalize (vget (t.drop at')).2.1 = i at *
    refine ⟨at' + i, tree_lim rfl rfl ?_, fun h => by cases h⟩
    simp only [Int.natCast_add] at k1
    simp [k1, h0, h16, h16', dfail]
  obtain ⟨at2, k2, e2⟩ := dloopP t ht (vget (t.drop at')).1 (by omega) (vget (t.drop at')).1 [] none (at' + (vget (t.drop at')).2.1) (by simp) (.inl ⟨rfl, rfl⟩) (by omega)
  generalize (vget (t.drop at')).1 = n at *
  generalize (vget (t.drop at')).2.1 = i at *
  by_cases h0 : n = 0
  · rw [if_pos h0]
    have h0' : ((n : Int) = 0) = True := eq_true (by omega)
    refine ⟨at' + i, tree_lim rfl rfl ?_, fun h => by cases h⟩
    simp only [Int.natCast_add] at k1
    simp [k1, h0, h0', dfail]
  rw [if_neg h0, if_neg h16]
  have h16' : ¬ (16 : Int) < (n : Int) := by omega
  have w := wrap64 (n := (n : Int)) (by omega) (by omega)
  have hc : (0 : Int) ≤ (n : Int) ∧ 32 * (n : Int) ≤ 281474976710656 ∧ (n : Int) ≤ 1152921504606846976 := by omega
  have k2' : TT.lim 88 [.l [], .i .i64 n, .i .i64 0, .s t, .i .i64 ((at' : Int) + (i : Int))] = _ := k2
  generalize hdl : dloop n none (t.drop (at' + i)) = r at *
  refine ⟨at2, tree_lim rfl rfl ?_, fun h => ?_⟩
  · simp only [Int.natCast_add] at k1
    unfold outD at k2'
    by_cases hq : r.2.2 = 0
    · simp only [hq, ne_eq, not_true_eq_false, if_false, List.nil_append] at k2' ⊢
      simp [k1, h0, h16, h16', w, hc, k2', GV.elemOk]
    · simp only [hq, ne_eq, not_false_eq_true, if_true] at k2' ⊢
      simp [k1, h0, h16, h16', w, hc, k2', GV.elemOk, dfail]
  · by_cases hq : r.2.2 = 0
    · rw [if_neg (fun e => e hq)]
      have := e2 hq
      simp only
      omega
    · rw [if_pos hq] at h
      exact absurd h hq
def outRD (acc : List Ent) (s : List UInt8) (r : List Ent × Nat × Int) : List GV := if r.2.2 ≠ 0 then [.i .i64 0, .i .i64 r.2.2] else [.i .i64 1, .s (s.drop r.2.1), .l ((acc ++ r.1).map ent)]
theorem rdstepE (L : List GV) (n i : Int) (s Y : List UInt8) (x : Ent) (e : Int) (h : i < n) (he : ¬ e = 0)
    (k : TT.lim 97 [.s s] = some [ent x, .s Y, .i .i64 e]) :
    TT.lim 96 [.s s, .i .u64 n, .l L, .i .u64 i] = some [.i .i64 0, .i .i64 e] := by
  refine tree_lim rfl rfl ?_
  simp [h, k, he]
theorem rdstep0 (L : List GV) (n : Int) (s Y : List UInt8) (x : Ent) (R : List GV) (h : 0 < n) (hb : 2 * (L.length + 1) * 32 ≤ 281474976710656 ∧ L.length + 1 ≤ 281474976710656)
    (k : TT.lim 97 [.s s] = some [ent x, .s Y, .i .i64 0])
    (ih : TT.lim 96 [.s Y, .i .u64 n, .l (L ++ [ent x]), .i .u64 1] = some R) :
    TT.lim 96 [.s s, .i .u64 n, .l L, .i .u64 0] = some R := by
  have he : GV.g [.s x.1, .s x.2] = ent x := rfl
  have w1 := wrapu64 (n := 1) (by omega) (by omega)
  refine tree_lim rfl rfl ?_
  simp [h, k, he, GV.elemOk, hb, w1, ih]
theorem rdstepB (L : List GV) (n : Int) (i : Nat) (s Y : List UInt8) (p x : Ent) (b : Int) (h : (i : Int) + 1 < n) (hi : i + 1 ≤ 1000000) (hl : (i : Int) < L.length) (hg : L[i]? = some (ent p)) (hb : ¬ b = 0)
    (kb : TT.lim 76 [ent p, ent x] = some [.i .i64 b]) (k : TT.lim 97 [.s s] = some [ent x, .s Y, .i .i64 0]) :
    TT.lim 96 [.s s, .i .u64 n, .l L, .i .u64 ((i : Int) + 1)] = some [.i .i64 0, .i .i64 b] := by
  have h0 : (0 : Int) < (i : Int) + 1 := by omega
  have w := wrapu64 (n := (i : Int)) (by omega) (by omega)
  have hl3 : i < L.length := by omega
  have hgi : L[i] = ent p := by have := hg; rw [List.getElem?_eq_getElem hl3] at this; exact Option.some.inj this
  have he : GV.g [.s x.1, .s x.2] = ent x := rfl
  have he2 : GV.g [.s p.1, .s p.2] = ent p := rfl
  refine tree_lim rfl rfl ?_
  simp [h, k, h0, w, hl, hl3, hg, hgi, he, he2, kb, hb]
theorem rdstepN (L : List GV) (n : Int) (i : Nat) (s Y : List UInt8) (p x : Ent) (R : List GV) (h : (i : Int) + 1 < n) (hi : i + 1 ≤ 1000000) (hl : (i : Int) < L.length) (hl2 : L.length ≤ 1000000) (hg : L[i]? = some (ent p))
    (kb : TT.lim 76 [ent p, ent x] = some [.i .i64 0]) (k : TT.lim 97 [.s s] = some [ent x, .s Y, .i .i64 0])
    (ih : TT.lim 96 [.s Y, .i .u64 n, .l (L ++ [ent x]), .i .u64 ((i : Int) + 1 + 1)] = some R) :
    TT.lim 96 [.s s, .i .u64 n, .l L, .i .u64 ((i : Int) + 1)] = some R := by
  have h0 : (0 : Int) < (i : Int) + 1 := by omega
  have w := wrapu64 (n := (i : Int)) (by omega) (by omega)
  have w2 := wrapu64 (n := (i : Int) + 1 + 1) (by omega) (by omega)
  have hl3 : i < L.length := by omega
  have hgi : L[i] = ent p := by have := hg; rw [List.getElem?_eq_getElem hl3] at this; exact Option.some.inj this
  have he : GV.g [.s x.1, .s x.2] = ent x := rfl
  have he2 : GV.g [.s p.1, .s p.2] = ent p := rfl
  have hbb : 2 * (L.length + 1) * 32 ≤ 281474976710656 ∧ L.length + 1 ≤ 281474976710656 := by omega
  refine tree_lim rfl rfl ?_
  simp [h, k, h0, w, w2, hl, hl3, hg, hgi, he, he2, kb, GV.elemOk, hbb, ih]
theorem rdloopP (n : Nat) (hn : n ≤ 1000) : ∀ (m : Nat) (acc : List Ent) (p : Option Ent) (s : List UInt8), acc.length + m = n → lastIs acc p → s.length ≤ 1000000 → (∀ x, p = some x → SmallE x) →
    TT.lim 96 [.s s, .i .u64 n, .l (acc.map ent), .i .u64 acc.length] = some (outRD acc s (dloop m p s))
  | 0, acc, p, s, hi, hp, h, _ => by
    have hlt : ¬ ((acc.length : Int) < (n : Int)) := by omega
    unfold dloop outRD
    simp only [ne_eq, not_true_eq_false, if_false, List.append_nil, List.drop_zero]
    generalize acc.map ent = L at *
    refine tree_lim rfl rfl ?_
    simp [hlt]
  | m + 1, acc, p, s, hi, hp, h, hsm => by
    have k := rentNextP s h
    rw [dloop_succ]
    by_cases h1 : (enext s).2.2 = 0
    rotate_left
    · rw [if_pos h1]
      have : outRD acc s ([], 0, (enext s).2.2) = [.i .i64 0, .i .i64 (enext s).2.2] := by unfold outRD; rw [if_pos h1]
      rw [this]
      exact rdstepE _ _ _ _ _ _ _ (by omega) h1 k
    rw [if_neg (fun e => e h1)]
    rw [if_pos h1, h1] at k
    obtain ⟨a1, a2, _, a4, a5, _⟩ := enext_ok h1
    have hsx : SmallE (enext s).1 := ⟨by omega, by omega⟩
    generalize hX : (enext s).1 = x at *
    have ih := rdloopP n hn m (acc ++ [x]) (some x) (s.drop (enext s).2.1) (by rw [List.length_append, List.length_singleton]; omega) (.inr ⟨acc, x, rfl, rfl⟩) (by rw [List.length_drop]; omega) (fun y hy => by cases hy; exact hsx)
    have hout : outRD acc s (if (dloop m (some x) (s.drop (enext s).2.1)).2.2 ≠ 0 then ([], 0, (dloop m (some x) (s.drop (enext s).2.1)).2.2) else (x :: (dloop m (some x) (s.drop (enext s).2.1)).1, (enext s).2.1 + (dloop m (some x) (s.drop (enext s).2.1)).2.1, 0)) = outRD (acc ++ [x]) (s.drop (enext s).2.1) (dloop m (some x) (s.drop (enext s).2.1)) := by
      unfold outRD
      by_cases hq : (dloop m (some x) (s.drop (enext s).2.1)).2.2 = 0
      · simp [hq]
      · simp [hq]
    rw [List.map_append] at ih
    rcases hp with ⟨rfl, rfl⟩ | ⟨a, y, rfl, rfl⟩
    · have hb0 : behO none x = 0 := rfl
      rw [hb0, if_neg (by simp), hout]
      exact rdstep0 [] n s _ x _ (by simp at hi; omega) (by simp) k ih
    · have kb := behind70 y x (hsm y rfl) hsx
      have hl : ((a ++ [y]).length : Int) = (a.length : Int) + 1 := by simp
      rw [List.length_append, List.length_singleton] at hi
      by_cases hb : behE y.1 x.1 = 0
      rotate_left
      · have hb' : behO (some y) x ≠ 0 := hb
        rw [if_pos hb']
        have : outRD (a ++ [y]) s ([], 0, behO (some y) x) = [.i .i64 0, .i .i64 (behE y.1 x.1)] := by unfold outRD; rw [if_pos hb']; rfl
        rw [this, hl]
        exact rdstepB _ n a.length s _ y x _ (by omega) (by omega) (by simp; omega) (by simp) hb kb k
      · have hb' : ¬ behO (some y) x ≠ 0 := fun e => e hb
        rw [if_neg hb', hout]
        have hl2 : ((a ++ [y] ++ [x]).length : Int) = (a.length : Int) + 1 + 1 := by simp; omega
        rw [hl]
        rw [hl2] at ih
        rw [hb] at kb
        exact rdstepN _ n a.length s _ y x _ (by omega) (by omega) (by simp; omega) (by simp; omega) (by simp) kb k ih
theorem rdnextP (s : List UInt8) (hs : s.length ≤ 1000000) : TT.lim 95 [.s s] = some [.l ((dnext s).1.map ent), .s (if (dnext s).2.2 = 0 then s.drop (dnext s).2.1 else []), .i .i64 (dnext s).2.2] := by
  have k1 := rgetP s (by omega)
  unfold dnext
  by_cases he : (vget s).2.2 = 0
  rotate_left
  · rw [if_pos he]
    generalize (vget s).2.2 = e at *
    refine fn_lim rfl rfl ?_ (by rfl)
    simp [k1, he, dfail]
  obtain ⟨v1, v2, v3, v4, _⟩ := vget_ok he
  rw [if_neg (fun e => e he)]
  rw [he] at k1
  by_cases h16 : 16 < (vget s).1
  · have h0 : ¬ (vget s).1 = 0 := by omega
    have h16' : (16 : Int) < ((vget s).1 : Nat) := by omega
    rw [if_neg h0, if_pos h16]
    generalize (vget s).1 = n at *
    generalize (vget s).2.1 = i at *
    refine fn_lim rfl rfl ?_ rfl
    simp [k1, h0, h16, h16', dfail]
  have k2 := rdloopP (vget s).1 (by omega) (vget s).1 [] none (s.drop (vget s).2.1) (by simp) (.inl ⟨rfl, rfl⟩) (by rw [List.length_drop]; omega) (fun x hx => by cases hx)
  have hd : (s.take s.length).drop (vget s).2.1 = s.drop (vget s).2.1 := by rw [List.take_length]
  generalize (vget s).1 = n at *
  generalize (vget s).2.1 = i at *
  by_cases h0 : n = 0
  · rw [if_pos h0]
    have h0' : ((n : Int) = 0) = True := eq_true (by omega)
    refine fn_lim rfl rfl ?_ rfl
    simp [k1, h0, h0', dfail]
  rw [if_neg h0, if_neg h16]
  have h16' : ¬ (16 : Int) < (n : Int) := by omega
  have hi : (i : Int) ≤ s.length := by omega
  have k2' : TT.lim 96 [.s (s.drop i), .i .u64 n, .l [], .i .u64 0] = _ := k2
  unfold outRD at k2'
  rw [List.drop_drop] at k2'
  generalize dloop n none (s.drop i) = r at *
  generalize hY : s.drop i = Y at *
  by_cases hq : r.2.2 = 0
  · simp only [hq, ne_eq, not_true_eq_false, if_false, List.nil_append] at k2' ⊢
    generalize s.drop (i + r.2.1) = Z at *
    refine fn_lim rfl rfl ?_ (by rfl)
    simp [k1, h0, h16, h16', hi, hd, hY, k2']
  · simp only [hq, ne_eq, not_false_eq_true, if_true] at k2' ⊢
    refine fn_lim rfl rfl ?_ (by rfl)
    simp [k1, h0, h16, h16', hi, hd, hY, k2', dfail, hq]
/-- A whole text, as a descriptor. -/
def dparse (s : List UInt8) : List Ent × Int :=
  if (dnext s).2.2 ≠ 0 then ([], (dnext s).2.2) else if (dnext s).2.1 < s.length then ([], 10) else ((dnext s).1, 0)
theorem dloop_ok : ∀ (m : Nat) (p : Option Ent) (s : List UInt8), (dloop m p s).2.2 = 0 → (dloop m p s).2.1 ≤ s.length ∧ (dloop m p s).1.length = m ∧ ∀ x ∈ (dloop m p s).1, entChk x = 0 ∧ x.1.length ≤ s.length ∧ x.2.length ≤ s.length
  | 0, p, s, _ => by simp [dloop]
  | m + 1, p, s, h => by
    rw [dloop_succ] at h ⊢
    by_cases h1 : (enext s).2.2 = 0
    rotate_left
    · rw [if_pos h1] at h; exact absurd h h1
    rw [if_neg (fun e => e h1)] at h ⊢
    by_cases h2 : behO p (enext s).1 = 0
    rotate_left
    · rw [if_pos h2] at h; exact absurd h h2
    rw [if_neg (fun e => e h2)] at h ⊢
    by_cases h3 : (dloop m (some (enext s).1) (s.drop (enext s).2.1)).2.2 = 0
    rotate_left
    · rw [if_pos h3] at h; exact absurd h h3
    rw [if_neg (fun e => e h3)]
    obtain ⟨a1, a2, a3, a4, a5, _⟩ := enext_ok h1
    obtain ⟨b1, b2, b3⟩ := dloop_ok m (some (enext s).1) _ h3
    rw [List.length_drop] at b1
    refine ⟨by simp only; omega, by simp [b2], fun x hx => ?_⟩
    rcases List.mem_cons.1 hx with rfl | hx
    · exact ⟨a3, a4, a5⟩
    · obtain ⟨c1, c2, c3⟩ := b3 x hx
      rw [List.length_drop] at c2 c3
      exact ⟨c1, by omega, by omega⟩
theorem dnext_ok {s : List UInt8} (h : (dnext s).2.2 = 0) : (vget s).2.2 = 0 ∧ 0 < (vget s).1 ∧ (vget s).1 ≤ 16 ∧ (dloop (vget s).1 none (s.drop (vget s).2.1)).2.2 = 0 ∧ (dnext s).1 = (dloop (vget s).1 none (s.drop (vget s).2.1)).1 ∧
    (dnext s).2.1 = (vget s).2.1 + (dloop (vget s).1 none (s.drop (vget s).2.1)).2.1 ∧ (dnext s).2.1 ≤ s.length := by
  unfold dnext at h ⊢
  by_cases h1 : (vget s).2.2 = 0
  rotate_left
  · rw [if_pos h1] at h; exact absurd h h1
  rw [if_neg (fun e => e h1)] at h ⊢
  by_cases h2 : (vget s).1 = 0
  · rw [if_pos h2] at h; exact absurd h (by simp [dfail])
  rw [if_neg h2] at h ⊢
  by_cases h3 : 16 < (vget s).1
  · rw [if_pos h3] at h; exact absurd h (by simp [dfail])
  rw [if_neg h3] at h ⊢
  by_cases h4 : (dloop (vget s).1 none (s.drop (vget s).2.1)).2.2 = 0
  rotate_left
  · rw [if_pos h4] at h; exact absurd h h4
  rw [if_neg (fun e => e h4)]
  obtain ⟨v1, v2, v3, _, _⟩ := vget_ok h1
  obtain ⟨d1, _, _⟩ := dloop_ok _ _ _ h4
  rw [List.length_drop] at d1
  exact ⟨h1, by omega, by omega, h4, rfl, rfl, by simp only; omega⟩
theorem dparseP (s : List UInt8) (hs : s.length ≤ 1000000) : TT.lim 86 [.s s] = some [.l ((dparse s).1.map ent), .i .i64 (dparse s).2] := by
  obtain ⟨at2, k, e2⟩ := dnextP s 0 (by omega) hs
  rw [List.drop_zero, show ((0 : Nat) : Int) = 0 from rfl] at k
  rw [List.drop_zero] at e2
  unfold dparse
  by_cases h1 : (dnext s).2.2 = 0
  rotate_left
  · rw [if_pos h1]
    generalize dnext s = r at *
    refine fn_lim rfl rfl ?_ (by rfl)
    simp [k, h1]
  have e2 := e2 h1
  obtain ⟨_, _, _, _, _, _, a7⟩ := dnext_ok h1
  rw [if_neg (fun e => e h1)]
  rw [h1] at k
  rw [Nat.zero_add] at e2
  have w := wrap64 (n := (s.length : Int) - (at2 : Int)) (by omega) (by omega)
  rw [← e2] at a7 ⊢
  generalize dnext s = r at *
  by_cases h2 : at2 < s.length
  · rw [if_pos h2]
    refine fn_lim rfl rfl ?_ rfl
    simp [k, w, h2]
  · rw [if_neg h2]
    refine fn_lim rfl rfl ?_ rfl
    simp [k, w, h2]
theorem rdparseP (s : List UInt8) (hs : s.length ≤ 1000000) : TT.lim 94 [.s s] = some [.l ((dparse s).1.map ent), .i .i64 (dparse s).2] := by
  have k := rdnextP s hs
  unfold dparse
  by_cases h1 : (dnext s).2.2 = 0
  rotate_left
  · rw [if_pos h1]
    generalize dnext s = r at *
    refine fn_lim rfl rfl ?_ (by rfl)
    simp [k, h1]
  rw [if_neg (fun e => e h1)]
  rw [if_pos h1, h1] at k
  have hd : (s.drop (dnext s).2.1 = []) = ¬ ((dnext s).2.1 < s.length) := by apply propext; rw [List.drop_eq_nil_iff]; omega
  generalize hY : s.drop (dnext s).2.1 = Y at *
  generalize dnext s = r at *
  by_cases h2 : r.2.1 < s.length
  · rw [if_pos h2]
    have hd' : (Y = []) = False := by rw [hd]; simp [h2]
    clear hd
    refine fn_lim rfl rfl ?_ rfl
    simp [k, hd']
  · rw [if_neg h2]
    have hd' : (Y = []) = True := by rw [hd]; simp [h2]
    clear hd
    refine fn_lim rfl rfl ?_ rfl
    simp [k, hd']
def qfail (e : Int) : Row × Nat × Int := (([], 0), 0, e)
/-- The row of a key, whose number stands next. -/
def qnext (key s : List UInt8) : Row × Nat × Int :=
  if (dparse key).2 ≠ 0 then qfail (dparse key).2 else
  if (vget s).2.2 ≠ 0 then qfail (vget s).2.2 else
  if (vget s).1 = 0 then qfail 17 else (((dparse key).1, ((vget s).1 : Nat)), (vget s).2.1, 0)
theorem qnext_ok {key s : List UInt8} (h : (qnext key s).2.2 = 0) : (dparse key).2 = 0 ∧ (vget s).2.2 = 0 ∧ (vget s).1 ≠ 0 ∧ (qnext key s).1 = ((dparse key).1, (((vget s).1 : Nat) : Int)) ∧ (qnext key s).2.1 = (vget s).2.1 := by
  unfold qnext at h ⊢
  by_cases h1 : (dparse key).2 = 0
  rotate_left
  · rw [if_pos h1] at h; exact absurd h h1
  rw [if_neg (fun e => e h1)] at h ⊢
  by_cases h2 : (vget s).2.2 = 0
  rotate_left
  · rw [if_pos h2] at h; exact absurd h h2
  rw [if_neg (fun e => e h2)] at h ⊢
  by_cases h3 : (vget s).1 = 0
  · rw [if_pos h3] at h; exact absurd h (by simp [qfail])
  rw [if_neg h3]
  exact ⟨h1, h2, h3, rfl, rfl⟩
theorem rowP (key t : List UInt8) (at' : Nat) (h : at' ≤ t.length) (ht : t.length ≤ 1000000) (hk : key.length ≤ 1000000) :
    ∃ at2 : Nat, TT.lim 85 [.s key, .s t, .i .i64 at'] = some [.i .i64 0, .l ((qnext key (t.drop at')).1.1.map ent), .i .u64 (qnext key (t.drop at')).1.2, .i .i64 (qnext key (t.drop at')).2.2, .s t, .i .i64 at2] ∧
      ((qnext key (t.drop at')).2.2 = 0 → at2 = at' + (qnext key (t.drop at')).2.1) := by
  have k1 := dparseP key hk
  have k2 := vnextP t at' h (by omega)
  unfold qnext
  generalize dparse key = D at *
  by_cases h1 : D.2 = 0
  rotate_left
  · rw [if_pos h1]
    refine ⟨at', tree_lim rfl rfl ?_, fun h => absurd h h1⟩
    simp [k1, h1, qfail]
  rw [if_neg (fun e => e h1)]
  by_cases h2 : (vget (t.drop at')).2.2 = 0
  rotate_left
  · obtain ⟨e1, e2⟩ := vget_err h2
    rw [e1, e2] at k2
    rw [if_pos h2]
    generalize vget (t.drop at') = V at *
    refine ⟨at', tree_lim rfl rfl ?_, fun h => absurd h h2⟩
    simp [k1, k2, h1, h2, qfail]
  rw [if_neg (fun e => e h2)]
  rw [h2] at k2
  simp only [Int.natCast_add] at k2
  generalize vget (t.drop at') = V at *
  by_cases h3 : V.1 = 0
  · rw [if_pos h3]
    rw [h3] at k2
    refine ⟨at' + V.2.1, tree_lim rfl rfl ?_, fun h => by cases h⟩
    simp [k1, k2, h1, qfail]
  · rw [if_neg h3]
    refine ⟨at' + V.2.1, tree_lim rfl rfl ?_, fun _ => rfl⟩
    simp [k1, k2, h1, h3]
/-- Rows, one behind the other. -/
def ploop : Nat → List UInt8 → Bool → List UInt8 → List Row × Nat × Int
  | 0, _, _, _ => ([], 0, 0)
  | m + 1, a, first, s => if (pnext s a first).2.2 ≠ 0 then ([], 0, (pnext s a first).2.2) else
    if (qnext (pnext s a first).1 (s.drop (pnext s a first).2.1)).2.2 ≠ 0 then ([], 0, (qnext (pnext s a first).1 (s.drop (pnext s a first).2.1)).2.2) else
    if (ploop m (pnext s a first).1 false (s.drop ((pnext s a first).2.1 + (qnext (pnext s a first).1 (s.drop (pnext s a first).2.1)).2.1))).2.2 ≠ 0 then ([], 0, (ploop m (pnext s a first).1 false (s.drop ((pnext s a first).2.1 + (qnext (pnext s a first).1 (s.drop (pnext s a first).2.1)).2.1))).2.2) else
    ((qnext (pnext s a first).1 (s.drop (pnext s a first).2.1)).1 :: (ploop m (pnext s a first).1 false (s.drop ((pnext s a first).2.1 + (qnext (pnext s a first).1 (s.drop (pnext s a first).2.1)).2.1))).1,
      (pnext s a first).2.1 + (qnext (pnext s a first).1 (s.drop (pnext s a first).2.1)).2.1 + (ploop m (pnext s a first).1 false (s.drop ((pnext s a first).2.1 + (qnext (pnext s a first).1 (s.drop (pnext s a first).2.1)).2.1))).2.1, 0)
theorem ploop_succ (m : Nat) (a : List UInt8) (first : Bool) (s : List UInt8) : ploop (m + 1) a first s = if (pnext s a first).2.2 ≠ 0 then ([], 0, (pnext s a first).2.2) else
    if (qnext (pnext s a first).1 (s.drop (pnext s a first).2.1)).2.2 ≠ 0 then ([], 0, (qnext (pnext s a first).1 (s.drop (pnext s a first).2.1)).2.2) else
    if (ploop m (pnext s a first).1 false (s.drop ((pnext s a first).2.1 + (qnext (pnext s a first).1 (s.drop (pnext s a first).2.1)).2.1))).2.2 ≠ 0 then ([], 0, (ploop m (pnext s a first).1 false (s.drop ((pnext s a first).2.1 + (qnext (pnext s a first).1 (s.drop (pnext s a first).2.1)).2.1))).2.2) else
    ((qnext (pnext s a first).1 (s.drop (pnext s a first).2.1)).1 :: (ploop m (pnext s a first).1 false (s.drop ((pnext s a first).2.1 + (qnext (pnext s a first).1 (s.drop (pnext s a first).2.1)).2.1))).1,
      (pnext s a first).2.1 + (qnext (pnext s a first).1 (s.drop (pnext s a first).2.1)).2.1 + (ploop m (pnext s a first).1 false (s.drop ((pnext s a first).2.1 + (qnext (pnext s a first).1 (s.drop (pnext s a first).2.1)).2.1))).2.1, 0) := rfl
def outP (acc : List Row) (t : List UInt8) (at2 : Nat) (r : List Row × Nat × Int) : List GV := if r.2.2 ≠ 0 then [.i .i64 0, .i .i64 r.2.2, .s t, .i .i64 at2] else [.i .i64 1, .l ((acc ++ r.1).map row), .s t, .i .i64 at2]
theorem pstepE (L : List GV) (a t X : List UInt8) (n i at' at2 : Int) (first : Bool) (e : Int) (h : i < n) (hf : decide (i = 0) = first) (he : ¬ e = 0)
    (k : TT.lim 26 [.s t, .s a, .b first, .i .i64 at'] = some [.i .i64 0, .s X, .i .i64 e, .s t, .i .i64 at2]) :
    TT.lim 84 [.l L, .s a, .i .i64 n, .i .i64 i, .s t, .i .i64 at'] = some [.i .i64 0, .i .i64 e, .s t, .i .i64 at2] := by
  refine tree_lim rfl rfl ?_
  simp [h, hf, k, he]
theorem pstepQ (L : List GV) (a t X : List UInt8) (D : List GV) (N : Int) (n i at' at2 at3 : Int) (first : Bool) (e : Int) (h : i < n) (hf : decide (i = 0) = first) (he : ¬ e = 0)
    (k : TT.lim 26 [.s t, .s a, .b first, .i .i64 at'] = some [.i .i64 0, .s X, .i .i64 0, .s t, .i .i64 at2])
    (k2 : TT.lim 85 [.s X, .s t, .i .i64 at2] = some [.i .i64 0, .l D, .i .u64 N, .i .i64 e, .s t, .i .i64 at3]) :
    TT.lim 84 [.l L, .s a, .i .i64 n, .i .i64 i, .s t, .i .i64 at'] = some [.i .i64 0, .i .i64 e, .s t, .i .i64 at3] := by
  refine tree_lim rfl rfl ?_
  simp [h, hf, k, k2, he]
theorem pstepN (L : List GV) (a t X : List UInt8) (D : List GV) (N : Int) (n i at' at2 at3 : Int) (first : Bool) (R : List GV) (h : i < n) (hf : decide (i = 0) = first) (hw : IntKind.i64.wrap (i + 1) = i + 1) (hb : L.length ≤ 1000000)
    (k : TT.lim 26 [.s t, .s a, .b first, .i .i64 at'] = some [.i .i64 0, .s X, .i .i64 0, .s t, .i .i64 at2])
    (k2 : TT.lim 85 [.s X, .s t, .i .i64 at2] = some [.i .i64 0, .l D, .i .u64 N, .i .i64 0, .s t, .i .i64 at3])
    (ih : TT.lim 84 [.l (L ++ [.g [.l D, .i .u64 N]]), .s X, .i .i64 n, .i .i64 (i + 1), .s t, .i .i64 at3] = some R) :
    TT.lim 84 [.l L, .s a, .i .i64 n, .i .i64 i, .s t, .i .i64 at'] = some R := by
  have hbb : 2 * (L.length + 1) * 32 ≤ 281474976710656 ∧ L.length + 1 ≤ 281474976710656 := by omega
  refine tree_lim rfl rfl ?_
  simp [h, hf, k, k2, hw, GV.elemOk, hbb, ih]
theorem ploopP (t : List UInt8) (ht : t.length ≤ 1000000) (n : Nat) (hn : n ≤ 1000) : ∀ (m : Nat) (acc : List Row) (a : List UInt8) (at' : Nat), acc.length + m = n → at' ≤ t.length → a.length ≤ at' →
    ∃ at2 : Nat, TT.lim 84 [.l (acc.map row), .s a, .i .i64 n, .i .i64 acc.length, .s t, .i .i64 at'] = some (outP acc t at2 (ploop m a (decide ((acc.length : Int) = 0)) (t.drop at'))) ∧
      ((ploop m a (decide ((acc.length : Int) = 0)) (t.drop at')).2.2 = 0 → at2 = at' + (ploop m a (decide ((acc.length : Int) = 0)) (t.drop at')).2.1)
  | 0, acc, a, at', hi, h, ha => by
    have hlt : ¬ ((acc.length : Int) < (n : Int)) := by omega
    refine ⟨at', ?_, fun _ => by simp [ploop]⟩
    unfold ploop outP
    simp only [ne_eq, not_true_eq_false, if_false, List.append_nil]
    generalize acc.map row = L at *
    refine tree_lim rfl rfl ?_
    simp [hlt]
  | m + 1, acc, a, at', hi, h, ha => by
    obtain ⟨at2, k, e2⟩ := pnextP t a (decide ((acc.length : Int) = 0)) at' h ht (by omega)
    rw [ploop_succ]
    generalize hf : decide ((acc.length : Int) = 0) = first at *
    by_cases h1 : (pnext (t.drop at') a first).2.2 = 0
    rotate_left
    · rw [if_pos h1]
      refine ⟨at2, ?_, fun h => absurd h h1⟩
      have : outP acc t at2 ([], 0, (pnext (t.drop at') a first).2.2) = [.i .i64 0, .i .i64 (pnext (t.drop at') a first).2.2, .s t, .i .i64 at2] := by unfold outP; rw [if_pos h1]
      rw [this]
      exact pstepE _ _ _ _ _ _ _ _ _ _ (by omega) hf h1 k
    rw [if_neg (fun e => e h1)]
    rw [h1] at k
    have e2 := e2 h1
    obtain ⟨a1, a2, a3⟩ := pnext_ok h1
    rw [List.length_drop] at a2
    have hdd : ∀ j, (t.drop at').drop ((pnext (t.drop at') a first).2.1 + j) = t.drop (at2 + j) := by intro j; rw [List.drop_drop, e2, Nat.add_assoc]
    have hdd0 : (t.drop at').drop (pnext (t.drop at') a first).2.1 = t.drop at2 := by rw [List.drop_drop, e2]
    have hal : (pnext (t.drop at') a first).1.length ≤ at2 := by split at a3 <;> omega
    rw [hdd, hdd0]
    generalize (pnext (t.drop at') a first).1 = X at *
    generalize (pnext (t.drop at') a first).2.1 = j1 at *
    obtain ⟨at3, k2, e3⟩ := rowP X t at2 (by omega) ht (by omega)
    by_cases h2 : (qnext X (t.drop at2)).2.2 = 0
    rotate_left
    · rw [if_pos h2]
      refine ⟨at3, ?_, fun h => absurd h h2⟩
      have : outP acc t at3 ([], 0, (qnext X (t.drop at2)).2.2) = [.i .i64 0, .i .i64 (qnext X (t.drop at2)).2.2, .s t, .i .i64 at3] := by unfold outP; rw [if_pos h2]
      rw [this]
      exact pstepQ _ _ _ _ _ _ _ _ _ _ _ _ _ (by omega) hf h2 k k2
    rw [if_neg (fun e => e h2)]
    rw [h2] at k2
    have e3 := e3 h2
    obtain ⟨_, q2, _, _, q5⟩ := qnext_ok h2
    obtain ⟨v1, v2, v3, _, _⟩ := vget_ok q2
    rw [List.length_drop] at v3
    have e3' : at2 + (qnext X (t.drop at2)).2.1 = at3 := e3.symm
    rw [e3']
    have hrow : GV.g [.l ((qnext X (t.drop at2)).1.1.map ent), .i .u64 (qnext X (t.drop at2)).1.2] = row (qnext X (t.drop at2)).1 := rfl
    obtain ⟨at4, ih, e4⟩ := ploopP t ht n hn m (acc ++ [(qnext X (t.drop at2)).1]) X at3 (by rw [List.length_append, List.length_singleton]; omega) (by omega) (by omega)
    have hfalse : decide (((acc ++ [(qnext X (t.drop at2)).1]).length : Int) = 0) = false := by simp; omega
    have hl : ((acc ++ [(qnext X (t.drop at2)).1]).length : Int) = (acc.length : Int) + 1 := by simp
    rw [hfalse] at ih e4
    rw [hl, List.map_append] at ih
    generalize (qnext X (t.drop at2)).1 = Q at *
    generalize (qnext X (t.drop at2)).2.1 = j2 at *
    have hout : outP acc t at4 (if (ploop m X false (t.drop at3)).2.2 ≠ 0 then ([], 0, (ploop m X false (t.drop at3)).2.2) else (Q :: (ploop m X false (t.drop at3)).1, j1 + j2 + (ploop m X false (t.drop at3)).2.1, 0)) = outP (acc ++ [Q]) t at4 (ploop m X false (t.drop at3)) := by
      unfold outP
      by_cases hq : (ploop m X false (t.drop at3)).2.2 = 0
      · simp [hq]
      · simp [hq]
    refine ⟨at4, ?_, ?_⟩
    · rw [hout]
      exact pstepN _ _ _ _ _ _ _ _ _ _ _ _ _ (by omega) hf (wrap64 (by omega) (by omega)) (by simp; omega) k k2 (by rw [hrow]; exact ih)
    · by_cases hq : (ploop m X false (t.drop at3)).2.2 = 0
      · rw [if_neg (fun e => e hq)]
        intro _
        have := e4 hq
        simp only
        omega
      · rw [if_pos hq]
        intro h
        exact absurd h hq
def kfail (e : Int) : List Row × Nat × Int := ([], 0, e)
/-- A table that stands next. -/
def knext (s : List UInt8) : List Row × Nat × Int :=
  if (vget s).2.2 ≠ 0 then kfail (vget s).2.2 else
  if 256 < (vget s).1 then kfail 13 else
  if (ploop (vget s).1 [] true (s.drop (vget s).2.1)).2.2 ≠ 0 then kfail (ploop (vget s).1 [] true (s.drop (vget s).2.1)).2.2 else
  ((ploop (vget s).1 [] true (s.drop (vget s).2.1)).1, (vget s).2.1 + (ploop (vget s).1 [] true (s.drop (vget s).2.1)).2.1, 0)
theorem knextP (t : List UInt8) (at' : Nat) (h : at' ≤ t.length) (ht : t.length ≤ 1000000) :
    ∃ at2 : Nat, TT.lim 83 [.s t, .i .i64 at'] = some [.i .i64 0, .l ((knext (t.drop at')).1.map row), .i .i64 (knext (t.drop at')).2.2, .s t, .i .i64 at2] ∧ ((knext (t.drop at')).2.2 = 0 → at2 = at' + (knext (t.drop at')).2.1) := by
  have k1 := vnextP t at' h (by omega)
  unfold knext
  by_cases he : (vget (t.drop at')).2.2 = 0
  rotate_left
  · obtain ⟨e1, e2⟩ := vget_err he
    rw [e1, e2] at k1
    rw [if_pos he]
    generalize (vget (t.drop at')).2.2 = e at *
    refine ⟨at', tree_lim rfl rfl ?_, fun h => absurd h he⟩
    simp [k1, he, kfail]
  obtain ⟨v1, v2, v3, v4, _⟩ := vget_ok he
  rw [if_neg (fun e => e he)]
  rw [he] at k1
  rw [List.length_drop] at v3
  rw [List.drop_drop]
  by_cases h16 : 256 < (vget (t.drop at')).1
  · have h16' : (256 : Int) < ((vget (t.drop at')).1 : Nat) := by omega
    rw [if_pos h16]
    generalize (vget (t.drop at')).1 = n at *
    generalize (vget (t.drop at')).2.1 = i at *
    refine ⟨at' + i, tree_lim rfl rfl ?_, fun h => by cases h⟩
    simp only [Int.natCast_add] at k1
    simp [k1, h16, h16', kfail]
  obtain ⟨at2, k2, e2⟩ := ploopP t ht (vget (t.drop at')).1 (by omega) (vget (t.drop at')).1 [] [] (at' + (vget (t.drop at')).2.1) (by simp) (by omega) (by simp)
  generalize (vget (t.drop at')).1 = n at *
  generalize (vget (t.drop at')).2.1 = i at *
  rw [if_neg h16]
  have h16' : ¬ (256 : Int) < (n : Int) := by omega
  have w := wrap64 (n := (n : Int)) (by omega) (by omega)
  have hc : (0 : Int) ≤ (n : Int) ∧ 32 * (n : Int) ≤ 281474976710656 ∧ (n : Int) ≤ 1152921504606846976 := by omega
  rw [show decide ((([] : List Row).length : Int) = 0) = true from rfl] at k2 e2
  have k2' : TT.lim 84 [.l [], .s [], .i .i64 n, .i .i64 0, .s t, .i .i64 ((at' : Int) + (i : Int))] = _ := k2
  generalize ploop n [] true (t.drop (at' + i)) = r at *
  refine ⟨at2, tree_lim rfl rfl ?_, fun h => ?_⟩
  · simp only [Int.natCast_add] at k1
    unfold outP at k2'
    by_cases hq : r.2.2 = 0
    · simp only [hq, ne_eq, not_true_eq_false, if_false, List.nil_append] at k2' ⊢
      simp [k1, h16, h16', w, hc, k2', GV.elemOk]
    · simp only [hq, ne_eq, not_false_eq_true, if_true] at k2' ⊢
      simp [k1, h16, h16', w, hc, k2', GV.elemOk, kfail]
  · by_cases hq : r.2.2 = 0
    · rw [if_neg (fun e => e hq)]
      have := e2 hq
      simp only
      omega
    · rw [if_pos hq] at h
      exact absurd h hq
def outRP (acc : List Row) (s : List UInt8) (r : List Row × Nat × Int) : List GV := if r.2.2 ≠ 0 then [.i .i64 0, .i .i64 r.2.2] else [.i .i64 1, .s (s.drop r.2.1), .l ((acc ++ r.1).map row)]
theorem rpstepE (L : List GV) (a s X Y : List UInt8) (n i : Int) (first : Bool) (e : Int) (h : i < n) (hf : decide (i = 0) = first) (he : ¬ e = 0)
    (k : TT.lim 32 [.s s, .s a, .b first] = some [.s X, .s Y, .i .i64 e]) :
    TT.lim 93 [.s s, .i .u64 n, .l L, .s a, .i .u64 i] = some [.i .i64 0, .i .i64 e] := by
  refine tree_lim rfl rfl ?_
  simp [h, hf, k, he]
theorem rpstepD (L : List GV) (a s X Y : List UInt8) (D : List GV) (n i : Int) (first : Bool) (e : Int) (h : i < n) (hf : decide (i = 0) = first) (he : ¬ e = 0)
    (k : TT.lim 32 [.s s, .s a, .b first] = some [.s X, .s Y, .i .i64 0]) (k2 : TT.lim 94 [.s X] = some [.l D, .i .i64 e]) :
    TT.lim 93 [.s s, .i .u64 n, .l L, .s a, .i .u64 i] = some [.i .i64 0, .i .i64 e] := by
  refine tree_lim rfl rfl ?_
  simp [h, hf, k, k2, he]
theorem rpstepV (L : List GV) (a s X Y : List UInt8) (D : List GV) (n i N j : Int) (first : Bool) (e : Int) (h : i < n) (hf : decide (i = 0) = first) (he : ¬ e = 0)
    (k : TT.lim 32 [.s s, .s a, .b first] = some [.s X, .s Y, .i .i64 0]) (k2 : TT.lim 94 [.s X] = some [.l D, .i .i64 0])
    (k3 : TT.lim 33 [.s Y] = some [.i .u64 N, .i .i64 j, .i .i64 e]) :
    TT.lim 93 [.s s, .i .u64 n, .l L, .s a, .i .u64 i] = some [.i .i64 0, .i .i64 e] := by
  refine tree_lim rfl rfl ?_
  simp [h, hf, k, k2, k3, he]
theorem rpstepZ (L : List GV) (a s X Y : List UInt8) (D : List GV) (n i j : Int) (first : Bool) (h : i < n) (hf : decide (i = 0) = first)
    (k : TT.lim 32 [.s s, .s a, .b first] = some [.s X, .s Y, .i .i64 0]) (k2 : TT.lim 94 [.s X] = some [.l D, .i .i64 0])
    (k3 : TT.lim 33 [.s Y] = some [.i .u64 0, .i .i64 j, .i .i64 0]) :
    TT.lim 93 [.s s, .i .u64 n, .l L, .s a, .i .u64 i] = some [.i .i64 0, .i .i64 17] := by
  refine tree_lim rfl rfl ?_
  simp [h, hf, k, k2, k3]
theorem rpstepN (L : List GV) (a s X Y : List UInt8) (D : List GV) (n i N : Int) (j : Nat) (first : Bool) (R : List GV) (h : i < n) (hf : decide (i = 0) = first) (hN : ¬ N = 0) (hw : IntKind.u64.wrap (i + 1) = i + 1) (hb : L.length ≤ 1000000) (hj : j ≤ Y.length)
    (k : TT.lim 32 [.s s, .s a, .b first] = some [.s X, .s Y, .i .i64 0]) (k2 : TT.lim 94 [.s X] = some [.l D, .i .i64 0])
    (k3 : TT.lim 33 [.s Y] = some [.i .u64 N, .i .i64 j, .i .i64 0])
    (ih : TT.lim 93 [.s (Y.drop j), .i .u64 n, .l (L ++ [.g [.l D, .i .u64 N]]), .s X, .i .u64 (i + 1)] = some R) :
    TT.lim 93 [.s s, .i .u64 n, .l L, .s a, .i .u64 i] = some R := by
  have hbb : 2 * (L.length + 1) * 32 ≤ 281474976710656 ∧ L.length + 1 ≤ 281474976710656 := by omega
  have hj' : (j : Int) ≤ Y.length := by omega
  have hd : (Y.take Y.length).drop j = Y.drop j := by rw [List.take_length]
  generalize hZ : Y.drop j = Z at *
  refine tree_lim rfl rfl ?_
  simp [h, hf, k, k2, k3, hN, hw, GV.elemOk, hbb, hj', hd, hZ, ih]
theorem rploopP (n : Nat) (hn : n ≤ 1000) : ∀ (m : Nat) (acc : List Row) (a s : List UInt8), acc.length + m = n → a.length + s.length ≤ 1000000 →
    TT.lim 93 [.s s, .i .u64 n, .l (acc.map row), .s a, .i .u64 acc.length] = some (outRP acc s (ploop m a (decide ((acc.length : Int) = 0)) s))
  | 0, acc, a, s, hi, h => by
    have hlt : ¬ ((acc.length : Int) < (n : Int)) := by omega
    unfold ploop outRP
    simp only [ne_eq, not_true_eq_false, if_false, List.append_nil, List.drop_zero]
    generalize acc.map row = L at *
    refine tree_lim rfl rfl ?_
    simp [hlt]
  | m + 1, acc, a, s, hi, h => by
    have k := rnextP s a (decide ((acc.length : Int) = 0)) (by omega) (by omega)
    rw [ploop_succ]
    generalize hf : decide ((acc.length : Int) = 0) = first at *
    by_cases h1 : (pnext s a first).2.2 = 0
    rotate_left
    · rw [if_pos h1]
      have : outRP acc s ([], 0, (pnext s a first).2.2) = [.i .i64 0, .i .i64 (pnext s a first).2.2] := by unfold outRP; rw [if_pos h1]
      rw [this]
      exact rpstepE _ _ _ _ _ _ _ _ _ (by omega) hf h1 k
    rw [if_neg (fun e => e h1)]
    rw [if_pos h1, h1] at k
    obtain ⟨a1, a2, a3⟩ := pnext_ok h1
    have hal : (pnext s a first).1.length + (s.length - (pnext s a first).2.1) ≤ a.length + s.length := by split at a3 <;> omega
    have hdd : ∀ j, s.drop ((pnext s a first).2.1 + j) = (s.drop (pnext s a first).2.1).drop j := by intro j; rw [List.drop_drop]
    rw [hdd]
    have hYl : (s.drop (pnext s a first).2.1).length = s.length - (pnext s a first).2.1 := List.length_drop
    generalize hX : (pnext s a first).1 = X at *
    generalize hj1 : (pnext s a first).2.1 = j1 at *
    generalize hY : s.drop j1 = Y at *
    have kd := rdparseP X (by omega)
    have kv := rgetP Y (by omega)
    have hqd : ∀ e, e ≠ 0 → outRP acc s ([], 0, e) = [.i .i64 0, .i .i64 e] := by intro e he; unfold outRP; rw [if_pos he]
    by_cases c1 : (dparse X).2 = 0
    rotate_left
    · have : qnext X Y = qfail (dparse X).2 := by unfold qnext; rw [if_pos c1]
      rw [this, if_pos (show (qfail (dparse X).2).2.2 ≠ 0 from c1)]
      show _ = some (outRP acc s ([], 0, (dparse X).2))
      rw [hqd _ c1]
      exact rpstepD _ _ _ _ _ _ _ _ _ _ (by omega) hf c1 k kd
    by_cases c2 : (vget Y).2.2 = 0
    rotate_left
    · have : qnext X Y = qfail (vget Y).2.2 := by unfold qnext; rw [if_neg (fun e => e c1), if_pos c2]
      rw [this, if_pos (show (qfail (vget Y).2.2).2.2 ≠ 0 from c2)]
      show _ = some (outRP acc s ([], 0, (vget Y).2.2))
      rw [hqd _ c2]
      rw [c1] at kd
      exact rpstepV _ _ _ _ _ _ _ _ _ _ _ _ (by omega) hf c2 k kd kv
    by_cases c3 : (vget Y).1 = 0
    · have : qnext X Y = qfail 17 := by unfold qnext; rw [if_neg (fun e => e c1), if_neg (fun e => e c2), if_pos c3]
      rw [this, if_pos (by simp [qfail])]
      show _ = some (outRP acc s ([], 0, 17))
      rw [hqd _ (by decide)]
      rw [c1] at kd
      rw [c2, c3] at kv
      exact rpstepZ _ _ _ _ _ _ _ _ _ _ (by omega) hf k kd kv
    have hq : qnext X Y = (((dparse X).1, (((vget Y).1 : Nat) : Int)), (vget Y).2.1, 0) := by unfold qnext; rw [if_neg (fun e => e c1), if_neg (fun e => e c2), if_neg c3]
    obtain ⟨v1, v2, v3, _, _⟩ := vget_ok c2
    rw [hq, if_neg (by simp)]
    simp only
    rw [c1] at kd
    rw [c2] at kv
    have ih := rploopP n hn m (acc ++ [((dparse X).1, (((vget Y).1 : Nat) : Int))]) X (Y.drop (vget Y).2.1) (by rw [List.length_append, List.length_singleton]; omega) (by rw [List.length_drop]; omega)
    have hfalse : decide (((acc ++ [((dparse X).1, (((vget Y).1 : Nat) : Int))]).length : Int) = 0) = false := by simp; omega
    have hl : ((acc ++ [((dparse X).1, (((vget Y).1 : Nat) : Int))]).length : Int) = (acc.length : Int) + 1 := by simp
    rw [hfalse, hl, List.map_append] at ih
    have hsd : ∀ z, s.drop (j1 + (vget Y).2.1 + z) = (Y.drop (vget Y).2.1).drop z := by intro z; rw [← hY, List.drop_drop, List.drop_drop]; congr 1; omega
    have hout : outRP acc s (if (ploop m X false (Y.drop (vget Y).2.1)).2.2 ≠ 0 then ([], 0, (ploop m X false (Y.drop (vget Y).2.1)).2.2) else (((dparse X).1, (((vget Y).1 : Nat) : Int)) :: (ploop m X false (Y.drop (vget Y).2.1)).1, j1 + (vget Y).2.1 + (ploop m X false (Y.drop (vget Y).2.1)).2.1, 0)) =
        outRP (acc ++ [((dparse X).1, (((vget Y).1 : Nat) : Int))]) (Y.drop (vget Y).2.1) (ploop m X false (Y.drop (vget Y).2.1)) := by
      unfold outRP
      by_cases hq : (ploop m X false (Y.drop (vget Y).2.1)).2.2 = 0
      · simp only [hq, ne_eq, not_true_eq_false, if_false, hsd]
        simp
      · simp [hq]
    rw [hout]
    exact rpstepN _ _ _ _ _ _ _ _ _ _ _ _ (by omega) hf (by omega) (wrapu64 (by omega) (by omega)) (by simp; omega) v3 k kd kv ih
theorem rknextP (s : List UInt8) (hs : s.length ≤ 1000000) : TT.lim 92 [.s s] = some [.l ((knext s).1.map row), .s (if (knext s).2.2 = 0 then s.drop (knext s).2.1 else []), .i .i64 (knext s).2.2] := by
  have k1 := rgetP s (by omega)
  unfold knext
  by_cases he : (vget s).2.2 = 0
  rotate_left
  · rw [if_pos he]
    generalize (vget s).2.2 = e at *
    refine fn_lim rfl rfl ?_ (by rfl)
    simp [k1, he, kfail]
  obtain ⟨v1, v2, v3, v4, _⟩ := vget_ok he
  rw [if_neg (fun e => e he)]
  rw [he] at k1
  by_cases h16 : 256 < (vget s).1
  · have h16' : (256 : Int) < ((vget s).1 : Nat) := by omega
    rw [if_pos h16]
    generalize (vget s).1 = n at *
    generalize (vget s).2.1 = i at *
    refine fn_lim rfl rfl ?_ rfl
    simp [k1, h16, h16', kfail]
  have k2 := rploopP (vget s).1 (by omega) (vget s).1 [] [] (s.drop (vget s).2.1) (by simp) (by rw [List.length_drop]; simp; omega)
  have hd : (s.take s.length).drop (vget s).2.1 = s.drop (vget s).2.1 := by rw [List.take_length]
  generalize (vget s).1 = n at *
  generalize (vget s).2.1 = i at *
  rw [if_neg h16]
  have h16' : ¬ (256 : Int) < (n : Int) := by omega
  have hi : (i : Int) ≤ s.length := by omega
  rw [show decide ((([] : List Row).length : Int) = 0) = true from rfl] at k2
  have k2' : TT.lim 93 [.s (s.drop i), .i .u64 n, .l [], .s [], .i .u64 0] = _ := k2
  unfold outRP at k2'
  rw [List.drop_drop] at k2'
  generalize ploop n [] true (s.drop i) = r at *
  generalize hY : s.drop i = Y at *
  by_cases hq : r.2.2 = 0
  · simp only [hq, ne_eq, not_true_eq_false, if_false, List.nil_append] at k2' ⊢
    generalize s.drop (i + r.2.1) = Z at *
    refine fn_lim rfl rfl ?_ (by rfl)
    simp [k1, h16, h16', hi, hd, hY, k2']
  · simp only [hq, ne_eq, not_false_eq_true, if_true] at k2' ⊢
    refine fn_lim rfl rfl ?_ (by rfl)
    simp [k1, h16, h16', hi, hd, hY, k2', kfail, hq]
/-- A whole text, as a table. -/
def tparse (s : List UInt8) : List Row × Int :=
  if (knext s).2.2 ≠ 0 then ([], (knext s).2.2) else if (knext s).2.1 < s.length then ([], 10) else ((knext s).1, 0)
theorem ploop_ok : ∀ (m : Nat) (a : List UInt8) (first : Bool) (s : List UInt8), (ploop m a first s).2.2 = 0 → (ploop m a first s).2.1 ≤ s.length ∧ (ploop m a first s).1.length = m
  | 0, a, first, s, _ => by simp [ploop]
  | m + 1, a, first, s, h => by
    rw [ploop_succ] at h ⊢
    by_cases h1 : (pnext s a first).2.2 = 0
    rotate_left
    · rw [if_pos h1] at h; exact absurd h h1
    rw [if_neg (fun e => e h1)] at h ⊢
    by_cases h2 : (qnext (pnext s a first).1 (s.drop (pnext s a first).2.1)).2.2 = 0
    rotate_left
    · rw [if_pos h2] at h; exact absurd h h2
    rw [if_neg (fun e => e h2)] at h ⊢
    by_cases h3 : (ploop m (pnext s a first).1 false (s.drop ((pnext s a first).2.1 + (qnext (pnext s a first).1 (s.drop (pnext s a first).2.1)).2.1))).2.2 = 0
    rotate_left
    · rw [if_pos h3] at h; exact absurd h h3
    rw [if_neg (fun e => e h3)]
    obtain ⟨a1, a2, _⟩ := pnext_ok h1
    obtain ⟨_, q2, _, _, q5⟩ := qnext_ok h2
    obtain ⟨v1, v2, v3, _, _⟩ := vget_ok q2
    rw [List.length_drop] at v3
    obtain ⟨b1, b2⟩ := ploop_ok m _ _ _ h3
    rw [List.length_drop] at b1
    exact ⟨by simp only; omega, by simp [b2]⟩
theorem knext_ok {s : List UInt8} (h : (knext s).2.2 = 0) : (vget s).2.2 = 0 ∧ (vget s).1 ≤ 256 ∧ (ploop (vget s).1 [] true (s.drop (vget s).2.1)).2.2 = 0 ∧ (knext s).1 = (ploop (vget s).1 [] true (s.drop (vget s).2.1)).1 ∧
    (knext s).2.1 = (vget s).2.1 + (ploop (vget s).1 [] true (s.drop (vget s).2.1)).2.1 ∧ (knext s).2.1 ≤ s.length := by
  unfold knext at h ⊢
  by_cases h1 : (vget s).2.2 = 0
  rotate_left
  · rw [if_pos h1] at h; exact absurd h h1
  rw [if_neg (fun e => e h1)] at h ⊢
  by_cases h3 : 256 < (vget s).1
  · rw [if_pos h3] at h; exact absurd h (by simp [kfail])
  rw [if_neg h3] at h ⊢
  by_cases h4 : (ploop (vget s).1 [] true (s.drop (vget s).2.1)).2.2 = 0
  rotate_left
  · rw [if_pos h4] at h; exact absurd h h4
  rw [if_neg (fun e => e h4)]
  obtain ⟨v1, v2, v3, _, _⟩ := vget_ok h1
  obtain ⟨d1, _⟩ := ploop_ok _ _ _ _ h4
  rw [List.length_drop] at d1
  exact ⟨h1, by omega, h4, rfl, rfl, by simp only; omega⟩
theorem tparseP (s : List UInt8) (hs : s.length ≤ 1000000) : TT.lim 82 [.s s] = some [.l ((tparse s).1.map row), .i .i64 (tparse s).2] := by
  obtain ⟨at2, k, e2⟩ := knextP s 0 (by omega) hs
  rw [List.drop_zero, show ((0 : Nat) : Int) = 0 from rfl] at k
  rw [List.drop_zero] at e2
  unfold tparse
  by_cases h1 : (knext s).2.2 = 0
  rotate_left
  · rw [if_pos h1]
    generalize knext s = r at *
    refine fn_lim rfl rfl ?_ (by rfl)
    simp [k, h1]
  have e2 := e2 h1
  obtain ⟨_, _, _, _, _, a7⟩ := knext_ok h1
  rw [if_neg (fun e => e h1)]
  rw [h1] at k
  rw [Nat.zero_add] at e2
  have w := wrap64 (n := (s.length : Int) - (at2 : Int)) (by omega) (by omega)
  rw [← e2] at a7 ⊢
  generalize knext s = r at *
  by_cases h2 : at2 < s.length
  · rw [if_pos h2]
    refine fn_lim rfl rfl ?_ rfl
    simp [k, w, h2]
  · rw [if_neg h2]
    refine fn_lim rfl rfl ?_ rfl
    simp [k, w, h2]
theorem rtparseP (s : List UInt8) (hs : s.length ≤ 1000000) : TT.lim 91 [.s s] = some [.l ((tparse s).1.map row), .i .i64 (tparse s).2] := by
  have k := rknextP s hs
  unfold tparse
  by_cases h1 : (knext s).2.2 = 0
  rotate_left
  · rw [if_pos h1]
    generalize knext s = r at *
    refine fn_lim rfl rfl ?_ (by rfl)
    simp [k, h1]
  rw [if_neg (fun e => e h1)]
  rw [if_pos h1, h1] at k
  have hd : (s.drop (knext s).2.1 = []) = ¬ ((knext s).2.1 < s.length) := by apply propext; rw [List.drop_eq_nil_iff]; omega
  generalize hY : s.drop (knext s).2.1 = Y at *
  generalize knext s = r at *
  by_cases h2 : r.2.1 < s.length
  · rw [if_pos h2]
    have hd' : (Y = []) = False := by rw [hd]; simp [h2]
    clear hd
    refine fn_lim rfl rfl ?_ rfl
    simp [k, hd']
  · rw [if_neg h2]
    have hd' : (Y = []) = True := by rw [hd]; simp [h2]
    clear hd
    refine fn_lim rfl rfl ?_ rfl
    simp [k, hd']
def rowsPut : List UInt8 → List Row → List UInt8
  | _, [] => []
  | a, r :: t => oneF a (keyF r.1) ++ (vput r.2.toNat ++ rowsPut (keyF r.1) t)
/-- A table, as it is written. -/
def packF (t : List Row) : List UInt8 := vput t.length ++ rowsPut [] t
def putK (t : List Row) : List UInt8 × Int := if checkT t ≠ 0 then ([], checkT t) else (packF t, 0)
theorem rowsPut_len : ∀ (t : List Row) (a : List UInt8), (∀ r ∈ t, few12 r.1 = true ∧ 0 ≤ r.2 ∧ r.2 < 18446744073709551616) → (rowsPut a t).length ≤ 40000 * t.length
  | [], a, _ => by simp [rowsPut]
  | r :: t, a, h => by
    obtain ⟨h1, h2, h3⟩ := h r (by simp)
    have hk := key_len h1
    have ho := oneF_len a (keyF r.1) (by omega)
    have hv := vput_len (n := r.2.toNat) (by omega)
    have ih := rowsPut_len t (keyF r.1) fun q hq => h q (by simp [hq])
    simp only [rowsPut, List.length_append, List.length_cons]
    omega
theorem kputStep (L : List GV) (n i : Int) (D : List Ent) (N : Int) (a k O V acc : List UInt8) (R : List GV) (j : Nat) (hi : i = j) (h : i < n) (hg : L[j]? = some (row (D, N))) (hw : IntKind.i64.wrap (i + 1) = i + 1) (k1 : TT.lim 46 [.l (D.map ent)] = some [.s k]) (k2 : TT.lim 5 [.s a, .s k] = some [.s O])
    (k3 : TT.lim 8 [.i .u64 N] = some [.s V]) (hb1 : 2 * (acc.length + O.length) ≤ 281474976710656 ∧ acc.length + O.length ≤ 281474976710656) (hb2 : 2 * (acc.length + (O.length + V.length)) ≤ 281474976710656 ∧ acc.length + (O.length + V.length) ≤ 281474976710656)
    (ih : TT.lim 59 [.s k, .l L, .i .i64 n, .i .i64 (i + 1), .l (byteGs acc ++ (byteGs O ++ byteGs V))] = some R) :
    TT.lim 59 [.s a, .l L, .i .i64 n, .i .i64 i, .l (byteGs acc)] = some R := by
  subst hi
  have ok1 := byteGs_ok O
  have ok2 := byteGs_ok V
  refine tree_lim rfl rfl ?_
  simp [-List.all_eq_true, h, hg, hw, k1, k2, k3, ok1, ok2, hb1, hb2, Nat.add_assoc, ih]
theorem kputLoop (l : List Row) (hl : l.length ≤ 1000) (hf : ∀ r ∈ l, few12 r.1 = true ∧ 0 ≤ r.2 ∧ r.2 < 18446744073709551616) : ∀ (m i : Nat) (a acc : List UInt8), i + m = l.length → a.length ≤ 100000 → acc.length ≤ 10 + 40000 * i →
    TT.lim 59 [.s a, .l (l.map row), .i .i64 l.length, .i .i64 i, .l (byteGs acc)] = some [.i .i64 0, .l (byteGs (acc ++ rowsPut a (l.drop i)))]
  | 0, i, a, acc, hi, ha, hacc => by
    have hd : l.drop i = [] := List.drop_eq_nil_of_le (by omega)
    have h : ¬ ((i : Int) < l.length) := by omega
    rw [hd]
    refine tree_lim rfl rfl ?_
    simp [h, rowsPut]
  | m + 1, i, a, acc, hi, ha, hacc => by
    have hlt : i < l.length := by omega
    obtain ⟨h1, h2, h3⟩ := hf l[i] (List.getElem_mem hlt)
    have hk := key_len h1
    have k1 := key6 l[i].1 h1
    have k2 := oneP a (keyF l[i].1) (by omega) (by omega)
    have ho := oneF_len a (keyF l[i].1) (by omega)
    have k3 := put7 l[i].2.toNat (by omega)
    rw [show ((l[i].2.toNat : Nat) : Int) = l[i].2 by omega] at k3
    have hv := vput_len (n := l[i].2.toNat) (by omega)
    have ih := kputLoop l hl hf m (i + 1) (keyF l[i].1) (acc ++ (oneF a (keyF l[i].1) ++ vput l[i].2.toNat)) (by omega) (by omega) (by simp only [List.length_append]; omega)
    have he : acc ++ rowsPut a (l.drop i) = acc ++ (oneF a (keyF l[i].1) ++ vput l[i].2.toNat) ++ rowsPut (keyF l[i].1) (l.drop (i + 1)) := by
      rw [List.drop_eq_getElem_cons hlt]; simp [rowsPut]
    rw [he]
    rw [byteGs_append acc, byteGs_append] at ih
    rw [show ((i + 1 : Nat) : Int) = (i : Int) + 1 by omega] at ih
    exact kputStep _ _ _ l[i].1 l[i].2 a _ _ _ acc _ i rfl (by omega) (by simp [hlt]) (wrap64 (by omega) (by omega)) k1 k2 k3 (by omega) (by omega) ih
theorem kputP (t : List Row) (ht : Rows t) (hf : Few t) : TT.lim 49 [.l (t.map row)] = some [.s (putK t).1, .i .i64 (putK t).2] := by
  have k1 := check37 t ht hf
  unfold putK
  by_cases hc : checkT t = 0
  rotate_left
  · rw [if_pos hc]
    refine fn_lim rfl rfl ?_ (by rfl)
    simp [k1, hc]
  rw [if_neg (fun e => e hc)]
  rw [hc] at k1
  have h256 := ((checkT_iff t).1 hc).1
  have hff : ∀ r ∈ t, few12 r.1 = true ∧ 0 ≤ r.2 ∧ r.2 < 18446744073709551616 := fun r hr => ⟨hf r hr, (ht.2 r hr).2.1, (ht.2 r hr).2.2⟩
  have k2 := put7 t.length (by omega)
  have l2 := vput_len (n := t.length) (by omega)
  have k3 := kputLoop t (by omega) hff t.length 0 [] (vput t.length) (by omega) (by simp) (by omega)
  rw [List.drop_zero, show ((0 : Nat) : Int) = 0 from rfl] at k3
  have hlen := rowsPut_len t [] hff
  have w := wrapu64 (n := (t.length : Int)) (by omega) (by omega)
  have ok := byteGs_ok (vput t.length)
  have hb : 2 * (vput t.length).length ≤ 281474976710656 ∧ (vput t.length).length ≤ 281474976710656 := by omega
  have hbg := bytesG_byteGs (packF t)
  have hpl : (byteGs (packF t)).length ≤ 281474976710656 := by
    rw [byteGs_length]; unfold packF; rw [List.length_append]; omega
  have hk3 : TT.lim 59 [.s [], .l (t.map row), .i .i64 t.length, .i .i64 0, .l (byteGs (vput t.length))] = some [.i .i64 0, .l (byteGs (packF t))] := k3
  generalize byteGs (packF t) = PG at *
  generalize packF t = P at *
  generalize hVG : byteGs (vput t.length) = VG at *
  have hvl : VG.length = (vput t.length).length := by rw [← hVG, byteGs_length]
  rw [← hvl] at hb
  have hlm : (t.map row).length = t.length := by simp
  generalize t.map row = L at *
  refine fn_lim rfl rfl ?_ rfl
  simp [-List.all_eq_true, k1, hlm, w, k2, hVG, ok, hb, hk3, hbg, hpl]
theorem rkputStep0 (L : List GV) (n : Int) (D : List Ent) (N : Int) (k O V acc : List UInt8) (R : List GV) (h : 0 < n) (hg : L[0]? = some (row (D, N))) (k1 : TT.lim 77 [.l (D.map ent)] = some [.s k]) (k2 : TT.lim 15 [.s [], .s k] = some [.s O])
    (k3 : TT.lim 18 [.i .u64 N] = some [.s V]) (hb1 : (acc.length : Int) + (O.length : Int) ≤ 9223372036854775807) (hb2 : (acc.length : Int) + (O.length : Int) + (V.length : Int) ≤ 9223372036854775807)
    (ih : TT.lim 81 [.l L, .s (acc ++ (O ++ V)), .i .i64 n, .i .i64 1] = some R) :
    TT.lim 81 [.l L, .s acc, .i .i64 n, .i .i64 0] = some R := by
  have w1 := wrap64 (n := 1) (by omega) (by omega)
  refine tree_lim rfl rfl ?_
  simp [h, hg, w1, k1, k2, k3, hb1, hb2, ih]
theorem rkputStep (L : List GV) (n i : Int) (D E : List Ent) (N M : Int) (k k' O V acc : List UInt8) (R : List GV) (j : Nat) (hi : i = (j : Int) + 1) (h : i < n) (h0 : (0 : Int) < i) (hg : L[j + 1]? = some (row (D, N))) (hg' : L[j]? = some (row (E, M))) (hw : IntKind.i64.wrap (i + 1) = i + 1) (hw2 : IntKind.i64.wrap (i - 1) = i - 1) (hn1 : (i - 1).toNat = j) (hn2 : i.toNat = j + 1) (hn0 : (0 : Int) ≤ i - 1) (hn3 : (1 : Int) ≤ i) (hn4 : (0 : Int) ≤ i)
    (k1 : TT.lim 77 [.l (D.map ent)] = some [.s k]) (k1' : TT.lim 77 [.l (E.map ent)] = some [.s k']) (k2 : TT.lim 15 [.s k', .s k] = some [.s O])
    (k3 : TT.lim 18 [.i .u64 N] = some [.s V]) (hb1 : (acc.length : Int) + (O.length : Int) ≤ 9223372036854775807) (hb2 : (acc.length : Int) + (O.length : Int) + (V.length : Int) ≤ 9223372036854775807)
    (ih : TT.lim 81 [.l L, .s (acc ++ (O ++ V)), .i .i64 n, .i .i64 (i + 1)] = some R) :
    TT.lim 81 [.l L, .s acc, .i .i64 n, .i .i64 i] = some R := by
  clear hi
  refine tree_lim rfl rfl ?_
  simp [h, h0, hg, hg', hw, hw2, hn0, hn1, hn2, hn3, hn4, k1, k1', k2, k3, hb1, hb2, ih]
theorem rkputLoop (l : List Row) (hl : l.length ≤ 1000) (hf : ∀ r ∈ l, few12 r.1 = true ∧ 0 ≤ r.2 ∧ r.2 < 18446744073709551616) : ∀ (m i : Nat) (acc : List UInt8), i + m = l.length → acc.length ≤ 10 + 40000 * i →
    TT.lim 81 [.l (l.map row), .s acc, .i .i64 l.length, .i .i64 i] = some [.i .i64 0, .s (acc ++ rowsPut (if 0 < i then ((l[i - 1]?).map K).getD [] else []) (l.drop i))]
  | 0, i, acc, hi, hacc => by
    have hd : l.drop i = [] := List.drop_eq_nil_of_le (by omega)
    have h : ¬ ((i : Int) < l.length) := by omega
    rw [hd]
    refine tree_lim rfl rfl ?_
    simp [h, rowsPut]
  | m + 1, i, acc, hi, hacc => by
    have hlt : i < l.length := by omega
    obtain ⟨h1, h2, h3⟩ := hf l[i] (List.getElem_mem hlt)
    have hk := key_len h1
    have k1 := key74 l[i].1 h1
    have k3 := put75 l[i].2.toNat (by omega)
    rw [show ((l[i].2.toNat : Nat) : Int) = l[i].2 by omega] at k3
    have hv := vput_len (n := l[i].2.toNat) (by omega)
    have he : ∀ a, acc ++ rowsPut a (l.drop i) = acc ++ (oneF a (keyF l[i].1) ++ vput l[i].2.toNat) ++ rowsPut (keyF l[i].1) (l.drop (i + 1)) := by
      intro a
      rw [List.drop_eq_getElem_cons hlt]; simp [rowsPut]
    have ih := fun a (ha : (oneF a (keyF l[i].1)).length ≤ 20 + (keyF l[i].1).length) => rkputLoop l hl hf m (i + 1) (acc ++ (oneF a (keyF l[i].1) ++ vput l[i].2.toNat)) (by omega) (by simp only [List.length_append]; omega)
    have hpr : (if 0 < i + 1 then ((l[i + 1 - 1]?).map K).getD [] else []) = keyF l[i].1 := by simp [hlt]
    rw [hpr, show ((i + 1 : Nat) : Int) = (i : Int) + 1 by omega] at ih
    by_cases h0 : i = 0
    · subst h0
      rw [if_neg (by omega), he]
      have k2 := roneP [] (keyF l[0].1) (by simp) (by omega)
      have ho := oneF_len [] (keyF l[0].1) (by omega)
      exact rkputStep0 _ _ l[0].1 l[0].2 _ _ _ acc _ (by omega) (by simp [hlt]) k1 k2 k3 (by omega) (by omega) (ih [] ho)
    · obtain ⟨j, rfl⟩ : ∃ j, i = j + 1 := ⟨i - 1, by omega⟩
      have hj : j < l.length := by omega
      obtain ⟨g1, _, _⟩ := hf l[j] (List.getElem_mem hj)
      have k1' := key74 l[j].1 g1
      have hkj := key_len g1
      rw [if_pos (by omega), show ((l[j + 1 - 1]?).map K).getD [] = keyF l[j].1 by simp [hj], he]
      have k2 := roneP (keyF l[j].1) (keyF l[j + 1].1) (by omega) (by omega)
      have ho := oneF_len (keyF l[j].1) (keyF l[j + 1].1) (by omega)
      exact rkputStep _ _ _ l[j + 1].1 l[j].1 l[j + 1].2 l[j].2 _ _ _ _ acc _ j (by omega) (by omega) (by omega) (by simp [hlt]) (by simp [hj]) (wrap64 (by omega) (by omega)) (wrap64 (by omega) (by omega)) (by omega) (by omega) (by omega) (by omega) (by omega) k1 k1' k2 k3 (by omega) (by omega) (ih _ ho)
theorem rkputP (t : List Row) (ht : Rows t) (hf : Few t) : TT.lim 64 [.l (t.map row)] = some [.s (putK t).1, .i .i64 (putK t).2] := by
  have k1 := check59 t ht hf
  unfold putK
  by_cases hc : checkT t = 0
  rotate_left
  · rw [if_pos hc]
    refine fn_lim rfl rfl ?_ (by rfl)
    simp [k1, hc]
  rw [if_neg (fun e => e hc)]
  rw [hc] at k1
  have h256 := ((checkT_iff t).1 hc).1
  have hff : ∀ r ∈ t, few12 r.1 = true ∧ 0 ≤ r.2 ∧ r.2 < 18446744073709551616 := fun r hr => ⟨hf r hr, (ht.2 r hr).2.1, (ht.2 r hr).2.2⟩
  have k2 := put75 t.length (by omega)
  have l2 := vput_len (n := t.length) (by omega)
  have k3 := rkputLoop t (by omega) hff t.length 0 (vput t.length) (by omega) (by omega)
  rw [List.drop_zero, if_neg (by omega), show ((0 : Nat) : Int) = 0 from rfl] at k3
  have hk3 : TT.lim 81 [.l (t.map row), .s (vput t.length), .i .i64 t.length, .i .i64 0] = some [.i .i64 0, .s (packF t)] := k3
  have w := wrapu64 (n := (t.length : Int)) (by omega) (by omega)
  have hlm : (t.map row).length = t.length := by simp
  generalize packF t = P at *
  generalize vput t.length = V at *
  generalize t.map row = L at *
  have kt : TT.lim 80 [.l L] = some [.s P] := by
    refine fn_lim rfl rfl ?_ rfl
    simp [hlm, w, k2, hk3]
  refine fn_lim rfl rfl ?_ rfl
  simp [k1, kt]
theorem entChk_len {x : Ent} (h : entChk x = 0) : x.1.length ≤ 64 ∧ x.2.length ≤ 256 := by
  have hu : ∀ (s : List UInt8) (lo hi : Int), utfChk s lo hi = 0 → (s.length : Int) ≤ hi := by
    intro s lo hi h
    unfold utfChk at h
    split at h
    · cases h
    · split at h
      · cases h
      · omega
  unfold entChk at h
  by_cases h1 : utfChk x.1 1 64 = 0
  · rw [if_neg (fun e => e h1)] at h
    have a := hu _ _ _ h1
    have b := hu _ _ _ h
    omega
  · rw [if_pos h1] at h; exact absurd h h1
theorem tnext_put {s : List UInt8} (h : (tnext s).2.2 = 0) : vput (tnext s).1.length ++ (tnext s).1 = s.take (tnext s).2.1 := by
  unfold tnext at h ⊢
  by_cases h1 : (vget s).2.2 = 0
  rotate_left
  · rw [if_pos h1] at h; exact absurd h h1
  rw [if_neg (fun e => e h1)] at h ⊢
  obtain ⟨v1, v2, v3, v4, v5⟩ := vget_ok h1
  by_cases h2 : s.length - (vget s).2.1 < (vget s).1
  · rw [if_pos h2] at h; cases h
  rw [if_neg h2]
  simp only [List.length_take, List.length_drop]
  rw [Nat.min_eq_left (by omega), v5, List.take_add]
theorem enext_put {s : List UInt8} (h : (enext s).2.2 = 0) : entPut (enext s).1 = s.take (enext s).2.1 := by
  obtain ⟨_, _, _, _, _, h1, h2, h3, h4⟩ := enext_ok h
  rw [h3, h4]
  unfold entPut
  simp only
  have p1 := tnext_put h1
  have p2 := tnext_put h2
  rw [p1, List.append_assoc, p2, List.take_add]
theorem dloop_put : ∀ (m : Nat) (p : Option Ent) (s : List UInt8), (dloop m p s).2.2 = 0 → (dloop m p s).1.flatMap entPut = s.take (dloop m p s).2.1 ∧ chkL (p.map (·.1)) (dloop m p s).1 = 0
  | 0, p, s, _ => by simp [dloop, chkL]
  | m + 1, p, s, h => by
    rw [dloop_succ] at h ⊢
    by_cases h1 : (enext s).2.2 = 0
    rotate_left
    · rw [if_pos h1] at h; exact absurd h h1
    rw [if_neg (fun e => e h1)] at h ⊢
    by_cases h2 : behO p (enext s).1 = 0
    rotate_left
    · rw [if_pos h2] at h; exact absurd h h2
    rw [if_neg (fun e => e h2)] at h ⊢
    by_cases h3 : (dloop m (some (enext s).1) (s.drop (enext s).2.1)).2.2 = 0
    rotate_left
    · rw [if_pos h3] at h; exact absurd h h3
    rw [if_neg (fun e => e h3)]
    obtain ⟨b1, b2⟩ := dloop_put m (some (enext s).1) _ h3
    obtain ⟨_, _, a3, _⟩ := enext_ok h1
    have p1 := enext_put h1
    refine ⟨by simp only [List.flatMap_cons, b1, p1, List.take_add], ?_⟩
    unfold chkL
    rw [if_neg (fun e => e a3)]
    cases p with
    | none => exact b2
    | some k =>
      have h2' : behE k.1 (enext s).1.1 = 0 := h2
      unfold behE at h2'
      simp only [Option.map_some]
      by_cases c1 : (enext s).1.1 = k.1
      · rw [if_pos c1] at h2'; exact absurd h2' (by decide)
      rw [if_neg c1] at h2' ⊢
      by_cases c2 : Op.bytesLess (enext s).1.1 k.1 = true
      · rw [if_pos c2] at h2'; exact absurd h2' (by decide)
      rw [if_neg c2]
      exact b2
structure DOk (d : List Ent) (key : List UInt8) : Prop where
  chk : descrChk d = 0
  few : few12 d = true
  ents : Ents d
  put : keyF d = key
theorem dnext_put {s : List UInt8} (h : (dnext s).2.2 = 0) (hs : s.length ≤ 1000000) : DOk (dnext s).1 (s.take (dnext s).2.1) := by
  obtain ⟨a1, a2, a3, a4, a5, a6, a7⟩ := dnext_ok h
  obtain ⟨b1, b2, b3⟩ := dloop_ok _ _ _ a4
  obtain ⟨c1, c2⟩ := dloop_put _ _ _ a4
  obtain ⟨v1, v2, v3, v4, v5⟩ := vget_ok a1
  rw [a5, a6]
  refine ⟨?_, ?_, ⟨by omega, fun x hx => ?_⟩, ?_⟩
  · unfold descrChk
    rw [if_neg (by omega), if_neg (by omega)]
    exact c2
  · unfold few12
    rw [Bool.and_eq_true, decide_eq_true_iff, List.all_eq_true]
    refine ⟨fun x hx => ?_, by omega⟩
    obtain ⟨e1, e2⟩ := entChk_len (b3 x hx).1
    unfold fewE
    rw [decide_eq_true_iff]; omega
  · obtain ⟨e1, e2⟩ := entChk_len (b3 x hx).1
    omega
  · unfold keyF
    rw [b2, v5, c1, List.take_add]
theorem dparse_put {s : List UInt8} (h : (dparse s).2 = 0) (hs : s.length ≤ 1000000) : DOk (dparse s).1 s := by
  unfold dparse at h ⊢
  by_cases h1 : (dnext s).2.2 = 0
  rotate_left
  · rw [if_pos h1] at h; exact absurd h h1
  rw [if_neg (fun e => e h1)] at h ⊢
  by_cases h2 : (dnext s).2.1 < s.length
  · rw [if_pos h2] at h; exact absurd h (by simp)
  rw [if_neg h2]
  have := dnext_put h1 hs
  rw [List.take_of_length_le (by omega)] at this
  exact this
theorem pnext_put {s a : List UInt8} {first : Bool} (h : (pnext s a first).2.2 = 0) (hf : first = true → a = []) : oneF a (pnext s a first).1 = s.take (pnext s a first).2.1 ∧ (first = false → a < (pnext s a first).1) := by
  have ha : (if first = true then [] else a) = a := by
    cases first with
    | true => rw [if_pos rfl, hf rfl]
    | false => rfl
  unfold pnext at h ⊢
  simp only [ha] at h ⊢
  by_cases h1 : (vget s).2.2 = 0
  rotate_left
  · rw [if_pos h1] at h; exact absurd h h1
  rw [if_neg (fun e => e h1)] at h ⊢
  by_cases h2 : a.length < (vget s).1
  · rw [if_pos h2] at h; exact absurd h (by simp [pfail])
  rw [if_neg h2] at h ⊢
  by_cases h3 : (vget (s.drop (vget s).2.1)).2.2 = 0
  rotate_left
  · rw [if_pos h3] at h; exact absurd h h3
  rw [if_neg (fun e => e h3)] at h ⊢
  by_cases h4 : s.length - ((vget s).2.1 + (vget (s.drop (vget s).2.1)).2.1) < (vget (s.drop (vget s).2.1)).1
  · rw [if_pos h4] at h; exact absurd h (by simp [pfail])
  rw [if_neg h4] at h ⊢
  obtain ⟨v1, v2, v3, v4, v5⟩ := vget_ok h1
  obtain ⟨u1, u2, u3, u4, u5⟩ := vget_ok h3
  have hx : ((s.drop ((vget s).2.1 + (vget (s.drop (vget s).2.1)).2.1)).take (vget (s.drop (vget s).2.1)).1).length = (vget (s.drop (vget s).2.1)).1 := by
    rw [List.length_take, List.length_drop]; omega
  generalize hX : (s.drop ((vget s).2.1 + (vget (s.drop (vget s).2.1)).2.1)).take (vget (s.drop (vget s).2.1)).1 = X at *
  by_cases h5 : first = false ∧ Op.bytesLess a (a.take (vget s).1 ++ X) = false
  · rw [if_pos h5] at h; exact absurd h (by simp [pfail])
  rw [if_neg h5] at h ⊢
  by_cases h6 : (vget s).1 < common a (a.take (vget s).1 ++ X)
  · rw [if_pos h6] at h; exact absurd h (by simp [pfail])
  rw [if_neg h6]
  have hge := common_ge (vget s).1 a X (by omega)
  have hc : common a (a.take (vget s).1 ++ X) = (vget s).1 := by omega
  refine ⟨?_, fun hf => ?_⟩
  · unfold oneF
    simp only [hc]
    have hl : (a.take (vget s).1 ++ X).length - (vget s).1 = (vget (s.drop (vget s).2.1)).1 := by
      rw [List.length_append, List.length_take, hx]; omega
    have hd : (a.take (vget s).1 ++ X).drop (vget s).1 = X := by
      rw [List.drop_append_of_le_length (by rw [List.length_take]; omega)]
      rw [List.drop_eq_nil_of_le (by rw [List.length_take]; omega)]
      rfl
    rw [hl, hd, v5, u5, ← hX]
    rw [List.take_add, List.take_add, ← List.drop_drop]
  · simp only [hf, true_and] at h5
    rw [← bl_iff]
    simpa using h5
theorem ploop_put : ∀ (m : Nat) (a : List UInt8) (first : Bool) (s : List UInt8), (ploop m a first s).2.2 = 0 → (first = true → a = []) → a.length + s.length ≤ 1000000 →
    rowsPut a (ploop m a first s).1 = s.take (ploop m a first s).2.1 ∧ Rise (ploop m a first s).1 ∧ (first = false → ∀ r ∈ (ploop m a first s).1, a < K r) ∧ (∀ r ∈ (ploop m a first s).1, rowChk r = 0 ∧ few12 r.1 = true ∧ Ents r.1 ∧ 0 ≤ r.2 ∧ r.2 < 18446744073709551616)
  | 0, a, first, s, _, _, _ => by simp [ploop, rowsPut, Rise]
  | m + 1, a, first, s, h, hf, hl => by
    rw [ploop_succ] at h ⊢
    by_cases h1 : (pnext s a first).2.2 = 0
    rotate_left
    · rw [if_pos h1] at h; exact absurd h h1
    rw [if_neg (fun e => e h1)] at h ⊢
    by_cases h2 : (qnext (pnext s a first).1 (s.drop (pnext s a first).2.1)).2.2 = 0
    rotate_left
    · rw [if_pos h2] at h; exact absurd h h2
    rw [if_neg (fun e => e h2)] at h ⊢
    by_cases h3 : (ploop m (pnext s a first).1 false (s.drop ((pnext s a first).2.1 + (qnext (pnext s a first).1 (s.drop (pnext s a first).2.1)).2.1))).2.2 = 0
    rotate_left
    · rw [if_pos h3] at h; exact absurd h h3
    rw [if_neg (fun e => e h3)]
    obtain ⟨a1, a2, a3⟩ := pnext_ok h1
    obtain ⟨p1, p2⟩ := pnext_put h1 hf
    obtain ⟨q1, q2, q3, q4, q5⟩ := qnext_ok h2
    have hxl : (pnext s a first).1.length ≤ a.length + (pnext s a first).2.1 := by
      cases first <;> simp at a3 <;> omega
    obtain ⟨v1, v2, v3, v4, v5⟩ := vget_ok q2
    have dk := dparse_put q1 (by omega)
    obtain ⟨b1, b2, b3, b4⟩ := ploop_put m _ false _ h3 (fun e => by cases e) (by rw [List.length_drop]; omega)
    have hK : K (qnext (pnext s a first).1 (s.drop (pnext s a first).2.1)).1 = (pnext s a first).1 := by rw [q4]; exact dk.put
    have hN : (qnext (pnext s a first).1 (s.drop (pnext s a first).2.1)).1.2.toNat = (vget (s.drop (pnext s a first).2.1)).1 := by rw [q4]; simp
    simp only
    refine ⟨?_, ?_, fun hff r hr => ?_, fun r hr => ?_⟩
    · show oneF a (K _) ++ (vput _ ++ rowsPut (K _) _) = _
      rw [hK, hN, b1, p1, v5, ← q5]
      rw [List.take_add, List.take_add, List.append_assoc]
    · refine List.pairwise_cons.2 ⟨fun r hr => ?_, b2⟩
      rw [hK]
      exact b3 rfl r hr
    · rcases List.mem_cons.1 hr with rfl | hr
      · rw [hK]; exact p2 hff
      · exact List.lt_trans (p2 hff) (b3 rfl r hr)
    · rcases List.mem_cons.1 hr with rfl | hr
      · rw [q4]
        refine ⟨?_, dk.few, dk.ents, by simp only; omega, by simp only; omega⟩
        rw [rowChk_iff]
        exact ⟨dk.chk, by simp only; omega⟩
      · exact b4 r hr
structure TOk (t : List Row) : Prop where
  ok : Ok t
  few : Few t
  rows : Rows t
theorem knext_put {s : List UInt8} (h : (knext s).2.2 = 0) (hs : s.length ≤ 1000000) : packF (knext s).1 = s.take (knext s).2.1 ∧ TOk (knext s).1 := by
  obtain ⟨a1, a2, a3, a4, a5, a6⟩ := knext_ok h
  obtain ⟨v1, v2, v3, v4, v5⟩ := vget_ok a1
  obtain ⟨l1, l2⟩ := ploop_ok _ _ _ _ a3
  obtain ⟨b1, b2, _, b4⟩ := ploop_put _ _ _ _ a3 (fun _ => rfl) (by rw [List.length_drop]; simp; omega)
  rw [a4, a5]
  refine ⟨?_, ⟨by omega, b2, fun r hr => (b4 r hr).1⟩, fun r hr => (b4 r hr).2.1, by omega, fun r hr => (b4 r hr).2.2⟩
  unfold packF
  rw [l2, v5, b1, List.take_add]
theorem tok_nil : TOk [] := ⟨⟨by simp, List.Pairwise.nil, by simp⟩, fun r hr => by simp at hr, by simp, by simp⟩
theorem tparse_put {s : List UInt8} (hs : s.length ≤ 1000000) : TOk (tparse s).1 ∧ ((tparse s).2 = 0 → packF (tparse s).1 = s) ∧ ((tparse s).2 ≠ 0 → (tparse s).1 = []) := by
  unfold tparse
  by_cases h1 : (knext s).2.2 = 0
  rotate_left
  · rw [if_pos h1]
    exact ⟨tok_nil, fun h => absurd h h1, fun _ => rfl⟩
  rw [if_neg (fun e => e h1)]
  by_cases h2 : (knext s).2.1 < s.length
  · rw [if_pos h2]
    exact ⟨tok_nil, fun h => absurd h (by decide), fun _ => rfl⟩
  rw [if_neg h2]
  obtain ⟨b1, b2⟩ := knext_put h1 hs
  rw [List.take_of_length_le (by omega)] at b1
  exact ⟨b2, fun _ => b1, fun h => absurd rfl h⟩
theorem knext_tok {s : List UInt8} (hs : s.length ≤ 1000000) : TOk (knext s).1 := by
  by_cases h : (knext s).2.2 = 0
  · exact (knext_put h hs).2
  · unfold knext at h ⊢
    by_cases h1 : (vget s).2.2 = 0
    rotate_left
    · rw [if_pos h1]; exact tok_nil
    rw [if_neg (fun e => e h1)] at h ⊢
    by_cases h3 : 256 < (vget s).1
    · rw [if_pos h3]; exact tok_nil
    rw [if_neg h3] at h ⊢
    by_cases h4 : (ploop (vget s).1 [] true (s.drop (vget s).2.1)).2.2 = 0
    · rw [if_neg (fun e => e h4)] at h; exact absurd rfl h
    · rw [if_pos h4]; exact tok_nil
theorem TOk.len {t : List Row} (h : TOk t) : t.length ≤ 256 := h.ok.1
theorem TOk.good {t : List Row} (h : TOk t) : GoodT t := ⟨Nat.le_trans h.len (by decide), h.few, h.rows⟩
theorem knextNil : TT.lim 99 [] = some [.i .i64 0] := by
  have k := vnextNil
  refine tree_lim rfl rfl ?_
  simp [k]
theorem tells15 (a : List Row) (s : List UInt8) (ha : Rows a) (hs : s.length ≤ 140737488351232) : TT.lim 41 [.l (a.map row), .s s] = some [.b true] := by
  have k1 := few2 a ha
  by_cases c1 : few13 a = true
  rotate_left
  · have c1 : few13 a = false := by simpa using c1
    rw [c1] at k1
    refine fn_lim rfl rfl ?_ rfl
    simp [k1]
  rw [c1] at k1
  have ga := good_of ha c1
  by_cases c3 : 6000 < s.length
  · have c3' : (6000 : Int) < s.length := by omega
    refine fn_lim rfl rfl ?_ rfl
    simp [k1, c3, c3']
  have c3' : ¬ (6000 : Int) < s.length := by omega
  have p1 := kputP a ha ga.few
  have p2 := rkputP a ha ga.few
  have t1 := to54 a ga
  have g1 := tparseP s (by omega)
  have g2 := rtparseP s (by omega)
  obtain ⟨at2, n1, hat⟩ := knextP s 0 (by omega) (by omega)
  rw [List.drop_zero, show ((0 : Nat) : Int) = 0 from rfl] at n1
  rw [List.drop_zero] at hat
  have n2 := rknextP s (by omega)
  have nn := knextNil
  have ok1 := (tparse_put (s := s) (by omega)).1
  have ok2 := knext_tok (s := s) (by omega)
  have t2 := to54 _ ok1.good
  have t3 := to54 _ ok2.good
  have s1 := same97 (tparse s).1 (tparse s).1 (by have := ok1.len; omega) ok1.few
  have s2 := same97 (knext s).1 (knext s).1 (by have := ok2.len; omega) ok2.few
  rw [decide_eq_true rfl] at s1 s2
  clear ok1 ok2
  generalize (tparse s).2 = E1 at *
  generalize (tparse s).1.map row = L1 at *
  generalize putK a = PK at *
  generalize a.map row = LA at *
  by_cases he : (knext s).2.2 = 0
  · have hat := hat he
    obtain ⟨_, _, _, _, _, q6⟩ := knext_ok he
    rw [if_pos he] at n2
    rw [he] at n1 n2
    rw [Nat.zero_add] at hat
    rw [hat] at n1
    have hd : (s.take s.length).drop (knext s).2.1 = s.drop (knext s).2.1 := by rw [List.take_length]
    have hle : ((knext s).2.1 : Int) ≤ s.length := by omega
    generalize (knext s).1.map row = L2 at *
    generalize (knext s).2.1 = J at *
    generalize hY : s.drop J = Y at *
    refine fn_lim rfl rfl ?_ rfl
    simp [k1, c3, c3', p1, p2, t1, g1, g2, n1, n2, nn, t2, t3, s1, s2, hd, hY, hle]
  · rw [if_neg he] at n2
    generalize (knext s).1.map row = L2 at *
    generalize (knext s).2.2 = E2 at *
    refine fn_lim rfl rfl ?_ rfl
    simp [k1, c3, c3', p1, p2, t1, g1, g2, n1, n2, nn, t2, t3, s1, s2, he]
theorem packTells (gs : List GV) (h : hasArgs [(false, rowsTy), (false, [.str])] gs) : TT.lim 41 gs = some [.b true] := by
  obtain ⟨a, gs, rfl, h1, h⟩ := hasA_sc h
  obtain ⟨s, gs, rfl, h2, h⟩ := hasA_sc h
  obtain rfl := hasA_nil h
  obtain ⟨a, ha, rfl⟩ := rows_of h1
  obtain ⟨s, rfl, hs⟩ := has_str h2
  exact tells15 a s ha hs
end E
end Go.Proofs.YtamcdgfjjeldeaaGreatDoor
