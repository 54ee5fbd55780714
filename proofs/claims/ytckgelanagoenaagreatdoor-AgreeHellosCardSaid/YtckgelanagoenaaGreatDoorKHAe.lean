/- What the trees compute: plain laws. -/
import Derived.Test.YtckgelanagoenaaGreatDoorKHAT
import Derived.Test.YtckgelanagoenaaGreatDoorAbsPl
import Derived.Lib.TrimUEq
import Derived.Lib.MapLaws
namespace Go.Proofs.YtckgelanagoenaaGreatDoor
open Go Go.Abs
set_option linter.unusedSimpArgs false
set_option linter.unusedVariables false
set_option maxRecDepth 100000
namespace HA
/-- An entry: key and value. A row: its entries and its number. -/
abbrev Ent := List UInt8 × List UInt8
abbrev Row := List Ent × Int
def ent (x : Ent) : GV := .g [.s x.1, .s x.2]
def row (r : Row) : GV := .g [.l (r.1.map ent), .i .u64 r.2]
@[simp] theorem ent_cells (x : Ent) : (ent x).cells = [.s x.1, .s x.2] := rfl
@[simp] theorem row_cells (r : Row) : (row r).cells = [.l (r.1.map ent), .i .u64 r.2] := rfl
@[simp] theorem ent_scalar (x : Ent) : (ent x).scalar = false := rfl
@[simp] theorem row_scalar (r : Row) : (row r).scalar = false := rfl
/-- Texts and lists of no more than any machine bears. -/
def Ents (d : List Ent) : Prop := d.length ≤ 140737488351232 ∧ ∀ x ∈ d, x.1.length ≤ 140737488351232 ∧ x.2.length ≤ 140737488351232
def Rows (l : List Row) : Prop := l.length ≤ 140737488351232 ∧ ∀ r ∈ l, Ents r.1 ∧ 0 ≤ r.2 ∧ r.2 < 18446744073709551616
def fewE (x : Ent) : Bool := decide (x.1.length + x.2.length ≤ 600)
theorem loop5 (d : List Ent) (hd : Ents d) : ∀ m i : Nat, i + m = d.length → TT.lim 3 [.l (d.map ent), .i .i64 d.length, .i .i64 i] = some (if (d.drop i).all fewE = true then [.i .i64 1, .l (d.map ent)] else [.i .i64 0])
  | 0, i, hi => by
    have h0 : d.drop i = [] := List.drop_eq_nil_of_le (by omega)
    refine tree_lim rfl rfl ?_
    have h : ¬ ((i : Int) < d.length) := by omega
    simp [h, h0]
  | m + 1, i, hi => by
    have hlt : i < d.length := by omega
    have ih : TT.lim 3 [.l (d.map ent), .i .i64 d.length, .i .i64 ((i : Int) + 1)] = _ := loop5 d hd m (i + 1) (by omega)
    refine tree_lim rfl rfl ?_
    have h : ((i : Int) < d.length) := by omega
    have hw := wrap64 (n := (i : Int) + 1) (by omega) (by have := hd.1; omega)
    have hx := hd.2 d[i] (List.getElem_mem hlt)
    have hw2 := wrap64 (n := (d[i].1.length : Int) + (d[i].2.length : Int)) (by omega) (by omega)
    have hda : (d.drop i).all fewE = (fewE d[i] && (d.drop (i + 1)).all fewE) := by rw [List.drop_eq_getElem_cons hlt, List.all_cons]
    by_cases hf : (600 : Int) < (d[i].1.length : Int) + (d[i].2.length : Int)
    · have : fewE d[i] = false := by unfold fewE; simp; omega
      simp [h, hlt, hw2, hf, hda, this]
    · have : fewE d[i] = true := by unfold fewE; simp; omega
      rw [hda, this, Bool.true_and]
      simp [h, hlt, hw, hw2, hf, ih]
def few12 (d : List Ent) : Bool := d.all fewE && decide (d.length ≤ 40)
theorem few4 (d : List Ent) (hd : Ents d) : TT.lim 2 [.l (d.map ent)] = some [.b (few12 d)] := by
  refine fn_lim rfl rfl ?_ rfl
  have h5 : TT.lim 3 [.l (d.map ent), .i .i64 d.length, .i .i64 0] = _ := loop5 d hd d.length 0 (by omega)
  rw [List.drop_zero] at h5
  cases hc : d.all fewE with
  | false => rw [hc] at h5; simp [h5, few12, hc]
  | true =>
    rw [hc] at h5; simp only [if_true] at h5
    have : (decide ((d.length : Int) ≤ 40)) = decide (d.length ≤ 40) := by rw [Bool.eq_iff_iff]; simp; omega
    simp [h5, few12, hc, this]
def vput (n : Nat) : List UInt8 := if n < 128 then [UInt8.ofNat n] else UInt8.ofNat (n % 128 + 128) :: vput (n / 128)
termination_by n
decreasing_by omega
theorem vput_lt {n : Nat} (h : n < 128) : vput n = [UInt8.ofNat n] := by rw [vput, if_pos h]
theorem vput_ge {n : Nat} (h : ¬ n < 128) : vput n = UInt8.ofNat (n % 128 + 128) :: vput (n / 128) := by rw [vput, if_neg h]
def vsize (n : Nat) : Nat := (vput n).length
theorem shr7 {n : Int} (h0 : 0 ≤ n) : n.fdiv (2 ^ (7 : Nat)) = n / 128 := by
  rw [Int.fdiv_eq_ediv_of_nonneg _ (by decide)]; rfl
theorem shr_u64 {n : Nat} : shG .shr .u64 (n : Int) 7 = some (.i .u64 ((n / 128 : Nat) : Int)) := by
  have : ((n : Int)).fdiv (2 ^ (7 : Nat)) = ((n / 128 : Nat) : Int) := by rw [shr7 (by omega)]; omega
  simp [shG, IntKind.bits]
  exact this
theorem vsize_pos (n : Nat) : 0 < vsize n := by unfold vsize; rw [vput]; split <;> simp
theorem vsize_ge {n : Nat} (h : ¬ n < 128) : vsize n = vsize (n / 128) + 1 := by unfold vsize; rw [vput_ge h]; rfl
theorem vsize_le : ∀ (k n : Nat), 0 < k → n < 128 ^ k → vsize n ≤ k
  | 0, _, h, _ => by omega
  | k + 1, n, _, h => by
    by_cases hn : n < 128
    · unfold vsize; rw [vput_lt hn]; simp
    · rw [vsize_ge hn]
      cases k with
      | zero => simp at h; omega
      | succ k =>
        have : n / 128 < 128 ^ (k + 1) := by rw [Nat.pow_succ] at h; omega
        have := vsize_le (k + 1) (n / 128) (by omega) this
        omega
theorem vsize64 {n : Nat} (h : n < 18446744073709551616) : vsize n ≤ 10 := vsize_le 10 n (by omega) (by omega)
theorem loop9 : ∀ (n s : Nat), s + vsize n ≤ 1000 → n < 18446744073709551616 → TT.lim 9 [.i .u64 n, .i .i64 s] = some [.i .i64 0, .i .i64 ((s + vsize n - 1 : Nat) : Int)] := by
  intro n
  induction n using Nat.strongRecOn with
  | _ n ih =>
    intro s hs hn
    refine tree_lim rfl rfl ?_
    by_cases h : n < 128
    · have h' : ¬ (128 : Int) ≤ n := by omega
      simp [h', vsize, vput_lt h]
    · have h' : (128 : Int) ≤ n := by omega
      have hv := vsize_ge h
      have hp := vsize_pos (n / 128)
      have hw := wrap64 (n := (s : Int) + 1) (by omega) (by omega)
      have ih' : TT.lim 9 [.i .u64 ((n / 128 : Nat) : Int), .i .i64 ((s : Int) + 1)] = _ := ih (n / 128) (by omega) (s + 1) (by omega) (by omega)
      have hn' : s + vsize n - 1 = s + 1 + vsize (n / 128) - 1 := by omega
      rw [hn']
      have h7 : shG .shr .u64 (n : Int) 7 = some (.i .u64 ((n / 128 : Nat) : Int)) := shr_u64
      generalize ((n / 128 : Nat) : Int) = q at h7 ih'
      simp [h', hw, h7, ih']
theorem size8 (n : Nat) (hn : n < 18446744073709551616) : TT.lim 8 [.i .u64 n] = some [.i .i64 (vsize n)] := by
  have hp := vsize_pos n
  have h9 : TT.lim 9 [.i .u64 n, .i .i64 1] = _ := loop9 n 1 (by have := vsize64 hn; omega) hn
  rw [show 1 + vsize n - 1 = vsize n by omega] at h9
  refine fn_lim rfl rfl ?_ rfl
  simp [h9]
/-- The bytes of a number, each with its high bit set. -/
def vraw : Nat → Nat → List Nat
  | 0, _ => []
  | k + 1, n => (n % 128 + 128) :: vraw k (n / 128)
def byteG (n : Nat) : GV := .i .u8 n
theorem and127 (n : Nat) (hn : n < 18446744073709551616) : intG .and .u64 (n : Int) 127 = some (.i .u64 ((n % 128 : Nat) : Int)) := by
  have h1 : ((BitVec.ofInt 64 (n : Int) &&& BitVec.ofInt 64 127).toNat : Nat) = n % 128 := by
    rw [BitVec.toNat_and, BitVec.toNat_ofInt, BitVec.toNat_ofInt]
    have e1 : ((n : Int) % ((2 ^ 64 : Nat) : Int)).toNat = n := by omega
    have e2 : ((127 : Int) % ((2 ^ 64 : Nat) : Int)).toNat = 2 ^ 7 - 1 := by decide
    rw [e1, e2, Nat.and_two_pow_sub_one_eq_mod]
  show some (GV.i .u64 (IntKind.u64.wrap (((BitVec.ofInt 64 (n : Int) &&& BitVec.ofInt 64 127).toNat : Nat) : Int))) = _
  rw [h1, wrapu64 (by omega) (by omega)]
theorem and127_8 (n : Nat) (hn : n < 256) : intG .and .u8 (n : Int) 127 = some (.i .u8 ((n % 128 : Nat) : Int)) := by
  have : ∀ x : Fin 256, IntKind.u8.wrap (((BitVec.ofInt IntKind.u8.bits ((x.val : Nat) : Int) &&& BitVec.ofInt IntKind.u8.bits 127).toNat : Nat) : Int) = ((x.val % 128 : Nat) : Int) := by decide +kernel
  show some (GV.i .u8 _) = some (GV.i .u8 _)
  exact congrArg (fun z => some (GV.i .u8 z)) (this ⟨n, hn⟩)
theorem or128 (n : Nat) (hn : n < 128) : intG .or .u8 (n : Int) 128 = some (.i .u8 ((n + 128 : Nat) : Int)) := by
  have : ∀ x : Fin 128, IntKind.u8.wrap (((BitVec.ofInt IntKind.u8.bits ((x.val : Nat) : Int) ||| BitVec.ofInt IntKind.u8.bits 128).toNat : Nat) : Int) = ((x.val + 128 : Nat) : Int) := by decide +kernel
  show some (GV.i .u8 _) = some (GV.i .u8 _)
  exact congrArg (fun z => some (GV.i .u8 z)) (this ⟨n, hn⟩)
theorem wrapu8 {n : Int} (h0 : 0 ≤ n) (h1 : n < 256) : IntKind.u8.wrap n = n := by
  have : IntKind.u8.wrap n = n % 256 := by simp [IntKind.wrap, IntKind.signed, IntKind.bits]
  rw [this]; omega
@[simp] theorem byteG_cells (n : Nat) : (byteG n).cells = [byteG n] := rfl
@[simp] theorem byteG_scalar (n : Nat) : (byteG n).scalar = true := rfl
@[simp] theorem byteG_put (n : Nat) (v : GV) : (byteG n).put 0 [v] = some v := rfl
theorem bytesG_map : ∀ l : List Nat, (∀ x ∈ l, x < 256) → bytesG (l.map byteG) = some (l.map UInt8.ofNat)
  | [], _ => rfl
  | a :: l, h => by
    have h1 := h a (by simp)
    have h2 := bytesG_map l fun x hx => h x (by simp [hx])
    simp only [List.map_cons, byteG, bytesG] at h2 ⊢
    rw [if_pos (by omega)]
    have : (fun n : Nat => GV.i .u8 (n : Int)) = byteG := rfl
    rw [h2]
    simp
theorem loop10 : ∀ (m n : Nat) (done : List Nat), n < 18446744073709551616 → done.length + m < 1000 →
    TT.lim 10 [.i .u64 n, .l ((done ++ List.replicate m 0).map byteG), .i .i64 ((done.length + m : Nat) : Int), .i .i64 done.length] = some [.i .i64 0, .l ((done ++ vraw m n).map byteG)]
  | 0, n, done, hn, hd => by
    refine tree_lim rfl rfl ?_
    simp [vraw]
  | m + 1, n, done, hn, hd => by
    have hlt : (done.length : Int) < ((done.length + (m + 1) : Nat) : Int) := by omega
    have hw := wrap64 (n := (done.length : Int) + 1) (by omega) (by omega)
    have hw8 := wrapu8 (n := ((n % 128 : Nat) : Int)) (by omega) (by omega)
    have h7 : shG .shr .u64 (n : Int) 7 = some (.i .u64 ((n / 128 : Nat) : Int)) := shr_u64
    have ha := and127 n hn
    have ho := or128 (n % 128) (by omega)
    have ih := loop10 m (n / 128) (done ++ [n % 128 + 128]) (by omega) (by simp; omega)
    have hlen : (done ++ [n % 128 + 128]).length + m = done.length + (m + 1) := by simp; omega
    rw [hlen] at ih
    have hl2 : (((done ++ [n % 128 + 128]).length : Nat) : Int) = (done.length : Int) + 1 := by simp
    rw [hl2] at ih
    have hset : ((done ++ List.replicate (m + 1) 0).map byteG).set done.length (byteG (n % 128 + 128)) = (done ++ [n % 128 + 128] ++ List.replicate m 0).map byteG := by
      rw [List.replicate_succ, ← List.map_set, List.set_append_right _ _ (Nat.le_refl _), Nat.sub_self]
      simp
    have hget : ((done ++ List.replicate (m + 1) 0).map byteG)[done.length]? = some (byteG 0) := by
      rw [List.getElem?_map, List.getElem?_append_right (Nat.le_refl _), Nat.sub_self, List.replicate_succ]; rfl
    have hll : ((done ++ List.replicate (m + 1) 0).map byteG).length = done.length + (m + 1) := by simp
    have hv : done ++ vraw (m + 1) n = done ++ [n % 128 + 128] ++ vraw m (n / 128) := by simp [vraw]
    rw [hv]
    generalize hL : (done ++ List.replicate (m + 1) 0).map byteG = L at *
    refine tree_lim rfl rfl ?_
    have hix : (0 : Int) ≤ (done.length : Int) ∧ (done.length : Int) < (L.length : Int) := by rw [hll]; omega
    have hob : GV.i IntKind.u8 ((n % 128 + 128 : Nat) : Int) = byteG (n % 128 + 128) := rfl
    have hset' : L.set done.length (GV.i IntKind.u8 ((n % 128 + 128 : Nat) : Int)) = (done ++ [n % 128 + 128] ++ List.replicate m 0).map byteG := hset
    generalize (done ++ [n % 128 + 128] ++ List.replicate m 0).map byteG = L2 at ih hset'
    generalize (done ++ [n % 128 + 128] ++ vraw m (n / 128)).map byteG = L3 at ih ⊢
    generalize ((n / 128 : Nat) : Int) = q at h7 ih
    generalize ((n % 128 + 128 : Nat) : Int) = z at ho hset'
    generalize ((n % 128 : Nat) : Int) = rr at ha hw8 ho
    generalize ((done.length + (m + 1) : Nat) : Int) = N at hlt ih ⊢
    simp [hlt, ha, hw8, ho, hix, hget, h7, hw, hset', ih]
theorem vraw_len : ∀ m n, (vraw m n).length = m
  | 0, _ => rfl
  | m + 1, n => by simp [vraw, vraw_len m]
theorem vraw_lt : ∀ m n, ∀ x ∈ vraw m n, x < 256
  | 0, _, x, h => by simp [vraw] at h
  | m + 1, n, x, h => by
    simp only [vraw, List.mem_cons] at h
    rcases h with rfl | h
    · omega
    · exact vraw_lt m _ x h
/-- The last byte without its high bit: as numbers are written. -/
theorem vraw_put : ∀ (s n : Nat), vsize n = s + 1 → ∃ x, (vraw (s + 1) n)[s]? = some x ∧ ((vraw (s + 1) n).set s (x % 128)).map UInt8.ofNat = vput n
  | 0, n, h => by
    have hn : n < 128 := by
      by_cases hn : n < 128
      · exact hn
      · rw [vsize_ge hn] at h; have := vsize_pos (n / 128); omega
    refine ⟨n % 128 + 128, by simp [vraw], ?_⟩
    rw [vput_lt hn]
    simp [vraw]
    rw [Nat.mod_eq_of_lt hn]
  | s + 1, n, h => by
    have hn : ¬ n < 128 := by
      intro hn
      unfold vsize at h; rw [vput_lt hn] at h; simp at h
    rw [vsize_ge hn] at h
    obtain ⟨x, h1, h2⟩ := vraw_put s (n / 128) (by omega)
    refine ⟨x, by simp only [vraw, List.getElem?_cons_succ] at h1 ⊢; exact h1, ?_⟩
    rw [vput_ge hn, ← h2]
    simp [vraw]
theorem put7 (n : Nat) (hn : n < 18446744073709551616) : TT.lim 7 [.i .u64 n] = some [.s (vput n)] := by
  have h8 := size8 n hn
  have hp := vsize_pos n
  have hs := vsize64 hn
  obtain ⟨s, hs1⟩ : ∃ s, vsize n = s + 1 := ⟨vsize n - 1, by omega⟩
  obtain ⟨x, h1, h2⟩ := vraw_put s n hs1
  rw [hs1] at h8
  have h10 : TT.lim 10 [.i .u64 n, .l ((List.replicate (s + 1) 0).map byteG), .i .i64 ((s + 1 : Nat) : Int), .i .i64 0] = some [.i .i64 0, .l ((vraw (s + 1) n).map byteG)] := by
    have := loop10 (s + 1) n [] hn (by simp; omega)
    simpa using this
  have hr : (List.replicate (s + 1) 0).map byteG = List.replicate (s + 1) (GV.i .u8 0) := by rw [List.map_replicate]; rfl
  rw [hr] at h10
  have hx : x < 256 := vraw_lt _ _ x (List.mem_of_getElem? h1)
  have ha := and127_8 x hx
  have hget : ((vraw (s + 1) n).map byteG)[s]? = some (byteG x) := by rw [List.getElem?_map, h1]; rfl
  have hset : ((vraw (s + 1) n).map byteG).set s (GV.i .u8 ((x % 128 : Nat) : Int)) = ((vraw (s + 1) n).set s (x % 128)).map byteG := (List.map_set (f := byteG) (l := vraw (s + 1) n) (i := s) (a := x % 128)).symm
  have hb := bytesG_map ((vraw (s + 1) n).set s (x % 128)) (fun y hy => by
    rcases List.mem_or_eq_of_mem_set hy with hy | rfl
    · exact vraw_lt _ _ y hy
    · omega)
  rw [h2] at hb
  have hlen : (((vraw (s + 1) n).set s (x % 128)).map byteG).length = s + 1 := by simp [vraw_len]
  have hlr : (List.replicate (s + 1) (GV.i .u8 0)).length = s + 1 := by simp
  have hl1 : ((vraw (s + 1) n).map byteG).length = s + 1 := by simp [vraw_len]
  generalize ((vraw (s + 1) n).set s (x % 128)).map byteG = L3 at hset hb hlen
  generalize (vraw (s + 1) n).map byteG = L2 at h10 hget hset hl1
  generalize hrep : List.replicate (s + 1) (GV.i .u8 0) = L1 at h10 hlr
  refine fn_lim rfl rfl ?_ rfl
  have hw := wrap64 (n := (s : Int)) (by omega) (by omega)
  have hcast : ((s + 1 : Nat) : Int) = (s : Int) + 1 := by omega
  rw [hcast] at h8 h10
  have hc1 : (0 : Int) ≤ (s : Int) + 1 ∧ (s : Int) + 1 ≤ 281474976710656 ∧ (s : Int) + 1 ≤ 1152921504606846976 := by omega
  have hc2 : ((s : Int) + 1).toNat = s + 1 := by omega
  have hlt : (s : Int) < (s : Int) + 1 := by omega
  have hs2 : (s : Int) + 1 - 1 = (s : Int) := by omega
  generalize hM : ((x % 128 : Nat) : Int) = M at ha hset
  have hxx : byteG x = .i .u8 x := rfl
  have h48 : s + 1 ≤ 281474976710656 := by omega
  have hg2 : L2[s]'(by omega) = byteG x := by have := hget; rw [List.getElem?_eq_getElem (by omega)] at this; exact Option.some.inj this
  simp [h8, hc1, hc2, hrep, hlr, h10, hl1, hs2, hw, hlt, hget, hg2, ha, hset, hxx, hlen, hb, h48, GV.elemOk]
theorem byteGs_append (a b : List UInt8) : byteGs (a ++ b) = byteGs a ++ byteGs b := by simp [byteGs]
@[simp] theorem byteGs_length (a : List UInt8) : (byteGs a).length = a.length := by simp [byteGs]
theorem byteGs_ok (a : List UInt8) : (byteGs a).all (GV.elemOk 1) = true := by
  rw [List.all_eq_true]
  intro x hx
  obtain ⟨b, _, rfl⟩ := List.mem_map.1 hx
  rfl
theorem bytesG_byteGs : ∀ a : List UInt8, bytesG (byteGs a) = some a
  | [] => rfl
  | x :: a => by
    have ih := bytesG_byteGs a
    simp only [byteGs, List.map_cons, bytesG] at ih ⊢
    have := x.toNat_lt
    rw [if_pos (by omega), ih]
    simp
def entPut (x : Ent) : List UInt8 := vput x.1.length ++ x.1 ++ vput x.2.length ++ x.2
def keyF (d : List Ent) : List UInt8 := vput d.length ++ d.flatMap entPut
theorem vput_len {n : Nat} (h : n < 18446744073709551616) : (vput n).length ≤ 10 := vsize64 h
theorem entput12 (x : Ent) (h1 : x.1.length ≤ 140737488351232) (h2 : x.2.length ≤ 140737488351232) : TT.lim 12 [ent x] = some [.s (entPut x)] := by
  have k1 := put7 x.1.length (by omega)
  have k2 := put7 x.2.length (by omega)
  have l1 := vput_len (n := x.1.length) (by omega)
  have l2 := vput_len (n := x.2.length) (by omega)
  have w1 := wrapu64 (n := (x.1.length : Int)) (by omega) (by omega)
  have w2 := wrapu64 (n := (x.2.length : Int)) (by omega) (by omega)
  refine fn_lim rfl rfl ?_ rfl
  have c1 : ((vput x.1.length).length : Int) + (x.1.length : Int) ≤ 9223372036854775807 := by omega
  have c2 : ((vput x.1.length).length : Int) + ((x.1.length : Int) + ((vput x.2.length).length : Int)) ≤ 9223372036854775807 := by omega
  have c3 : ((vput x.1.length).length : Int) + ((x.1.length : Int) + (((vput x.2.length).length : Int) + (x.2.length : Int))) ≤ 9223372036854775807 := by omega
  simp [w1, w2, k1, k2, c1, c2, c3, entPut, Int.add_assoc]
theorem entPut_len {x : Ent} (h : fewE x = true) : (entPut x).length ≤ 620 := by
  unfold fewE at h
  simp only [decide_eq_true_iff] at h
  have l1 := vput_len (n := x.1.length) (by omega)
  have l2 := vput_len (n := x.2.length) (by omega)
  simp only [entPut, List.length_append]
  omega
theorem flat_len620 : ∀ d : List Ent, d.all fewE = true → (d.flatMap entPut).length ≤ 620 * d.length
  | [], _ => by simp
  | x :: d, h => by
    rw [List.all_cons, Bool.and_eq_true] at h
    have := entPut_len h.1
    have := flat_len620 d h.2
    simp only [List.flatMap_cons, List.length_append, List.length_cons]
    omega
theorem loop11 (d : List Ent) (hf : d.all fewE = true) (hl : d.length ≤ 40) : ∀ (m i : Nat) (acc : List UInt8), i + m = d.length → acc.length ≤ 10 + 620 * i →
    TT.lim 11 [.l (d.map ent), .i .i64 d.length, .i .i64 i, .l (byteGs acc)] = some [.i .i64 0, .l (byteGs (acc ++ (d.drop i).flatMap entPut))]
  | 0, i, acc, hi, ha => by
    have h0 : d.drop i = [] := List.drop_eq_nil_of_le (by omega)
    refine tree_lim rfl rfl ?_
    have h : ¬ ((i : Int) < d.length) := by omega
    simp [h, h0]
  | m + 1, i, acc, hi, ha => by
    have hlt : i < d.length := by omega
    have hx := List.all_eq_true.1 hf d[i] (List.getElem_mem hlt)
    have hx1 := hx
    unfold fewE at hx1
    simp only [decide_eq_true_iff] at hx1
    have hp := entput12 d[i] (by omega) (by omega)
    have hpl := entPut_len hx
    have ih : TT.lim 11 [.l (d.map ent), .i .i64 d.length, .i .i64 ((i : Int) + 1), .l (byteGs (acc ++ entPut d[i]))] = _ := loop11 d hf hl m (i + 1) (acc ++ entPut d[i]) (by omega) (by simp; omega)
    rw [byteGs_append] at ih
    have hd : (d.drop i).flatMap entPut = entPut d[i] ++ (d.drop (i + 1)).flatMap entPut := by rw [List.drop_eq_getElem_cons hlt, List.flatMap_cons]
    rw [hd, ← List.append_assoc]
    refine tree_lim rfl rfl ?_
    have h : ((i : Int) < d.length) := by omega
    have hw := wrap64 (n := (i : Int) + 1) (by omega) (by omega)
    have hok := byteGs_ok (entPut d[i])
    have hb : 2 * (acc.length + (entPut d[i]).length) ≤ 281474976710656 ∧ acc.length + (entPut d[i]).length ≤ 281474976710656 := by omega
    have he : GV.g [GV.s d[i].1, GV.s d[i].2] = ent d[i] := rfl
    simp [-List.all_eq_true, h, hlt, he, hp, hok, hb, hw, ih]
theorem key6 (d : List Ent) (hf : few12 d = true) : TT.lim 6 [.l (d.map ent)] = some [.s (keyF d)] := by
  unfold few12 at hf
  rw [Bool.and_eq_true, decide_eq_true_iff] at hf
  have k := put7 d.length (by omega)
  have l1 := vput_len (n := d.length) (by omega)
  have w1 := wrapu64 (n := (d.length : Int)) (by omega) (by omega)
  have h11 : TT.lim 11 [.l (d.map ent), .i .i64 d.length, .i .i64 0, .l (byteGs (vput d.length))] = _ := loop11 d hf.1 hf.2 d.length 0 (vput d.length) (by omega) (by omega)
  rw [List.drop_zero] at h11
  have hb : 2 * (vput d.length).length ≤ 281474976710656 ∧ (vput d.length).length ≤ 281474976710656 := by omega
  have hok := byteGs_ok (vput d.length)
  have hfl := flat_len620 d hf.1
  have hc : (vput d.length).length + (List.flatMap entPut d).length ≤ 281474976710656 := by omega
  have hbg := bytesG_byteGs (vput d.length ++ d.flatMap entPut)
  refine fn_lim rfl rfl ?_ rfl
  unfold keyF
  generalize d.flatMap entPut = F at *
  simp [-List.all_eq_true, w1, k, hb, hok, h11, hc, hbg]
def fewR (long : Bool) (r : Row) : Bool := decide (r.1.length ≤ 18) && few12 r.1 && (!long || decide ((keyF r.1).length ≤ 100))
theorem loop3 (l : List Row) (hl : Rows l) : ∀ m i : Nat, i + m = l.length → TT.lim 5 [.l (l.map row), .i .i64 l.length, .i .i64 i] = some (if (l.drop i).all (fewR (decide (40 < l.length))) = true then [.i .i64 1, .l (l.map row)] else [.i .i64 0])
  | 0, i, hi => by
    have h0 : l.drop i = [] := List.drop_eq_nil_of_le (by omega)
    refine tree_lim rfl rfl ?_
    have h : ¬ ((i : Int) < l.length) := by omega
    simp [h, h0]
  | m + 1, i, hi => by
    have hlt : i < l.length := by omega
    have hr := hl.2 l[i] (List.getElem_mem hlt)
    have ih : TT.lim 5 [.l (l.map row), .i .i64 l.length, .i .i64 ((i : Int) + 1)] = _ := loop3 l hl m (i + 1) (by omega)
    have hda : (l.drop i).all (fewR (decide (40 < l.length))) = (fewR (decide (40 < l.length)) l[i] && (l.drop (i + 1)).all (fewR (decide (40 < l.length)))) := by rw [List.drop_eq_getElem_cons hlt, List.all_cons]
    rw [hda]
    refine tree_lim rfl rfl ?_
    have h : ((i : Int) < l.length) := by omega
    have hw := wrap64 (n := (i : Int) + 1) (by omega) (by have := hl.1; omega)
    have h4 := few4 l[i].1 hr.1
    by_cases h1 : 18 < l[i].1.length
    · have h1' : (18 : Int) < (l[i].1.length : Int) := by omega
      have : fewR (decide (40 < l.length)) l[i] = false := by unfold fewR; simp; omega
      rw [this]
      simp [h, hlt, h1']
    have h1' : ¬ (18 : Int) < (l[i].1.length : Int) := by omega
    have h1d : l[i].1.length ≤ 18 := by omega
    cases hf : few12 l[i].1 with
    | false =>
      rw [hf] at h4
      have : fewR (decide (40 < l.length)) l[i] = false := by unfold fewR; simp [hf]
      rw [this]
      simp [h, hlt, h1', h4]
    | true =>
      rw [hf] at h4
      have k6 := key6 l[i].1 hf
      by_cases h2 : 40 < l.length
      · have h2' : (40 : Int) < (l.length : Int) := by omega
        by_cases h3 : 100 < (keyF l[i].1).length
        · have h3' : (100 : Int) < ((keyF l[i].1).length : Int) := by omega
          have : fewR (decide (40 < l.length)) l[i] = false := by unfold fewR; simp [h2]; omega
          rw [this]
          simp [h, hlt, h1', h4, h2', k6, h3']
        · have h3' : ¬ (100 : Int) < ((keyF l[i].1).length : Int) := by omega
          have : fewR (decide (40 < l.length)) l[i] = true := by unfold fewR; simp [h2, hf, h1d]; omega
          rw [this, Bool.true_and]
          simp [h, hlt, h1', h4, h2', k6, h3', hw, ih]
      · have h2' : ¬ (40 : Int) < (l.length : Int) := by omega
        have : fewR (decide (40 < l.length)) l[i] = true := by unfold fewR; simp [h2, hf, h1d]
        rw [this, Bool.true_and]
        simp [h, hlt, h1', h4, h2', hw, ih]
def few13 (l : List Row) : Bool := l.all (fewR (decide (40 < l.length))) && decide (l.length ≤ 300)
theorem few2 (l : List Row) (hl : Rows l) : TT.lim 4 [.l (l.map row)] = some [.b (few13 l)] := by
  refine fn_lim rfl rfl ?_ rfl
  have h3 : TT.lim 5 [.l (l.map row), .i .i64 l.length, .i .i64 0] = _ := loop3 l hl l.length 0 (by omega)
  rw [List.drop_zero] at h3
  unfold few13
  cases hc : l.all (fewR (decide (40 < l.length))) with
  | false => rw [hc] at h3; simp [h3]
  | true =>
    rw [hc] at h3; simp only [if_true] at h3
    have : (decide ((l.length : Int) ≤ 300)) = decide (l.length ≤ 300) := by rw [Bool.eq_iff_iff]; simp; omega
    simp [h3, this]
theorem ents_of {cs : List GV} {r0 : List GV} (h : GTy.hasL [.list true [.str, .str], .int .u64] cs) : ∃ r : Row, (Ents r.1 ∧ 0 ≤ r.2 ∧ r.2 < 18446744073709551616) ∧ GV.g cs = row r := by
  obtain ⟨g, l, rfl, h1, h⟩ := hasL_cons h
  obtain ⟨n, l, rfl, h2, h⟩ := hasL_cons h
  obtain rfl := hasL_nil h
  obtain ⟨n, rfl, n1, n2⟩ := has_u64 h2
  obtain ⟨xs, rfl, h3, h4⟩ := has_list h1
  obtain ⟨d, hd, rfl⟩ : ∃ d : List Ent, (∀ x ∈ d, x.1.length ≤ 140737488351232 ∧ x.2.length ≤ 140737488351232) ∧ xs = d.map ent := list_map fun x hx => by
    obtain ⟨k1, k2⟩ := h4 x hx
    cases x <;> simp [GV.scalar] at k2
    obtain ⟨a, l, e1, a1, k1⟩ := hasL_cons k1
    obtain ⟨b, l, rfl, b1, k1⟩ := hasL_cons k1
    obtain rfl := hasL_nil k1
    obtain ⟨s, rfl, s1⟩ := has_str a1
    obtain ⟨u, rfl, u1⟩ := has_str b1
    simp only [cells_g] at e1
    subst e1
    exact ⟨(s, u), ⟨Nat.le_trans s1 (by decide), Nat.le_trans u1 (by decide)⟩, rfl⟩
  exact ⟨(d, n), ⟨⟨by have := Nat.le_trans h3 (by decide : reachBytes ≤ 140737488351232); simpa using this, hd⟩, n1, n2⟩, rfl⟩
theorem rows_of {g : GV} (h : (GTy.list true [.list true [.str, .str], .int .u64]).has g) : ∃ l : List Row, Rows l ∧ g = .l (l.map row) := by
  obtain ⟨xs, rfl, h1, h2⟩ := has_list h
  obtain ⟨l, hl, rfl⟩ : ∃ l : List Row, (∀ r ∈ l, Ents r.1 ∧ 0 ≤ r.2 ∧ r.2 < 18446744073709551616) ∧ xs = l.map row := list_map fun x hx => by
    obtain ⟨k1, k2⟩ := h2 x hx
    cases x <;> simp [GV.scalar] at k2
    obtain ⟨r, hr, e⟩ := ents_of (r0 := []) k1
    exact ⟨r, hr, e⟩
  exact ⟨l, ⟨by have := Nat.le_trans h1 (by decide : reachBytes ≤ 140737488351232); simpa using this, hl⟩, rfl⟩
structure One where
  deep : Int
  tag : Int
  typ : Int
  num : Int
  text : List UInt8
inductive Fld where
  | mk (tag typ num : Int) (text : List UInt8) (l : List Fld)
def one (x : One) : GV := .g [.i .u8 x.deep, .i .u64 x.tag, .i .i8 x.typ, .i .u64 x.num, .s x.text]
@[simp] theorem one_cells (x : One) : (one x).cells = [.i .u8 x.deep, .i .u64 x.tag, .i .i8 x.typ, .i .u64 x.num, .s x.text] := rfl
mutual
def fldG : Fld → GV
  | .mk t y n s l => .g [.i .u64 t, .i .i64 y, .i .u64 n, .s s, .l (fldsG l)]
def fldsG : List Fld → List GV
  | [] => []
  | f :: l => fldG f :: fldsG l
end
theorem fldsG_append : ∀ (a b : List Fld), fldsG (a ++ b) = fldsG a ++ fldsG b
  | [], b => rfl
  | f :: a, b => by simp only [List.cons_append, fldsG, fldsG_append a b]
theorem fldsG_len : ∀ (a : List Fld), (fldsG a).length = a.length
  | [] => rfl
  | f :: a => by simp only [fldsG, List.length_cons, fldsG_len a]
def OneOk (x : One) : Prop := 0 ≤ x.deep ∧ x.deep ≤ 255 ∧ -128 ≤ x.typ ∧ x.typ ≤ 127 ∧ 0 ≤ x.tag ∧ x.tag < 18446744073709551616 ∧ 0 ≤ x.num ∧ x.num < 18446744073709551616 ∧ x.text.length ≤ 140737488351232
def Ones (l : List One) : Prop := l.length ≤ 140737488351232 ∧ ∀ x ∈ l, OneOk x
def few8 (l : List One) : Bool := l.all (fun x => decide (x.text.length ≤ 300)) && decide (l.length ≤ 60)
theorem few8L (l : List One) (hl : l.length ≤ 140737488351232) : ∀ m i : Nat, i + m = l.length → TT.lim 14 [.l (l.map one), .i .i64 l.length, .i .i64 i] = some (if (l.drop i).all (fun x => decide (x.text.length ≤ 300)) = true then [.i .i64 1, .l (l.map one)] else [.i .i64 0])
  | 0, i, hi => by
    have h0 : l.drop i = [] := List.drop_eq_nil_of_le (by omega)
    refine tree_lim rfl rfl ?_
    have h : ¬ ((i : Int) < l.length) := by omega
    simp [h, h0]
  | m + 1, i, hi => by
    have hlt : i < l.length := by omega
    have ih : TT.lim 14 [.l (l.map one), .i .i64 l.length, .i .i64 ((i : Int) + 1)] = _ := few8L l hl m (i + 1) (by omega)
    refine tree_lim rfl rfl ?_
    have h : ((i : Int) < l.length) := by omega
    have hw := wrap64 (n := (i : Int) + 1) (by omega) (by omega)
    have hda : (l.drop i).all (fun x => decide (x.text.length ≤ 300)) = (decide (l[i].text.length ≤ 300) && (l.drop (i + 1)).all (fun x => decide (x.text.length ≤ 300))) := by rw [List.drop_eq_getElem_cons hlt, List.all_cons]
    by_cases hf : (300 : Int) < (l[i].text.length : Int)
    · have : decide (l[i].text.length ≤ 300) = false := by simp; omega
      simp [-List.all_eq_true, h, hlt, hf, hda, this]
    · have : decide (l[i].text.length ≤ 300) = true := by simp; omega
      rw [hda, this, Bool.true_and]
      simp [-List.all_eq_true, h, hlt, hw, hf, ih]
theorem few8_ok (l : List One) (hl : l.length ≤ 140737488351232) : TT.lim 13 [.l (l.map one)] = some [.b (few8 l)] := by
  refine fn_lim rfl rfl ?_ rfl
  have h5 : TT.lim 14 [.l (l.map one), .i .i64 l.length, .i .i64 0] = _ := few8L l hl l.length 0 (by omega)
  rw [List.drop_zero] at h5
  cases hc : l.all (fun x => decide (x.text.length ≤ 300)) with
  | false => rw [hc] at h5; simp [-List.all_eq_true, h5, few8, hc]
  | true =>
    rw [hc] at h5; simp only [if_true] at h5
    have : (decide ((l.length : Int) ≤ 60)) = decide (l.length ≤ 60) := by rw [Bool.eq_iff_iff]; simp; omega
    simp [-List.all_eq_true, h5, few8, hc, this]
/-- What Make makes: of the first ones that are at least so deep; and the others. -/
def fromF : Nat → List One → Int → List Fld × List One
  | 0, l, _ => ([], l)
  | _ + 1, [], _ => ([], [])
  | n + 1, x :: l, deep =>
    if deep ≤ x.deep then
      let p := if x.deep = 255 then ([], l) else fromF n l (x.deep + 1)
      let q := fromF n p.2 deep
      (.mk x.tag x.typ x.num x.text p.1 :: q.1, q.2)
    else ([], x :: l)
theorem fromF_le : ∀ (n : Nat) (l : List One) (deep : Int), (fromF n l deep).1.length + (fromF n l deep).2.length ≤ l.length ∧ ∃ k, (fromF n l deep).2 = l.drop k
  | 0, l, deep => by simp only [fromF]; exact ⟨by simp, 0, rfl⟩
  | n + 1, [], deep => by simp only [fromF]; exact ⟨by simp, 0, rfl⟩
  | n + 1, x :: l, deep => by
    simp only [fromF]
    split
    · by_cases hx : x.deep = 255
      · rw [if_pos hx]
        obtain ⟨h1, k, h2⟩ := fromF_le n l deep
        refine ⟨by simp only [List.length_cons]; omega, k + 1, by simp only [h2, List.drop_succ_cons]⟩
      · rw [if_neg hx]
        obtain ⟨h1, k, h2⟩ := fromF_le n l (x.deep + 1)
        obtain ⟨h3, k', h4⟩ := fromF_le n (fromF n l (x.deep + 1)).2 deep
        refine ⟨by simp only [List.length_cons]; omega, k + k' + 1, ?_⟩
        simp only [h4, List.drop_succ_cons]
        rw [h2, List.drop_drop]
    · exact ⟨by simp, 0, rfl⟩
def fldE (x : One) (l : List Fld) : GV := .g [.i .u64 x.tag, .i .i64 x.typ, .i .u64 x.num, .s x.text, .l (fldsG l)]
theorem from_ok : ∀ (n : Nat) (l : List One) (deep : Int) (acc : List Fld), l.length < n → acc.length + l.length ≤ 1000000 → (∀ x ∈ l, OneOk x) →
    TT.lim 18 [.l (l.map one), .i .u8 deep, .l (fldsG acc)] = some [.i .i64 0, .l ((fromF n l deep).2.map one), .l (fldsG (acc ++ (fromF n l deep).1))]
  | 0, l, deep, acc, hn, _, _ => by omega
  | n + 1, [], deep, acc, hn, hb, hl => by
    refine tree_lim rfl rfl ?_
    simp [fromF]
  | n + 1, x :: l, deep, acc, hn, hb, hl => by
    have hx := hl x (by simp)
    have hl' : ∀ y ∈ l, OneOk y := fun y hy => hl y (by simp [hy])
    simp only [List.length_cons] at hn hb
    have hw := wrap64 (n := x.typ) (by have := hx.2.2.1; omega) (by have := hx.2.2.2.1; omega)
    have hb2 : 2 * ((fldsG acc).length + 1) * 64 ≤ 281474976710656 := by rw [fldsG_len]; omega
    have hb3 : (fldsG acc).length ≤ 281474976710655 := by rw [fldsG_len]; omega
    have hcast : ((l.length : Int) + 1).toNat = l.length + 1 := by omega
    have h1 : (1 : Int) ≤ (l.length : Int) + 1 := by omega
    have htake : List.take l.length (l.map one) = l.map one := List.take_of_length_le (by simp)
    have hall : ∀ y ∈ l.map one, y.cells.length = 5 := by
      intro y hy; obtain ⟨z, _, rfl⟩ := List.mem_map.1 hy; rfl
    refine tree_lim rfl rfl ?_
    by_cases hd : deep ≤ x.deep
    · by_cases h255 : x.deep = 255
      · have ih := from_ok n l deep (acc ++ [.mk x.tag x.typ x.num x.text []]) (by omega) (by simp; omega) hl'
        have e : fromF (n + 1) (x :: l) deep = (.mk x.tag x.typ x.num x.text [] :: (fromF n l deep).1, (fromF n l deep).2) := by
          simp only [fromF, if_pos hd, if_pos h255]
        rw [e]
        rw [List.append_assoc, fldsG_append] at ih
        have e2 : fldsG [Fld.mk x.tag x.typ x.num x.text []] = [fldE x []] := rfl
        rw [e2] at ih
        have hel : (fldE x []).elemOk 5 = true := rfl
        have hfold : GV.g [.i .u64 x.tag, .i .i64 x.typ, .i .u64 x.num, .s x.text, .l []] = fldE x [] := rfl
        have h0 : (0 : Int) < (l.length : Int) + 1 := by omega
        have hd2 : deep ≤ 255 := by omega
        simp [hd2, h255, hw, hfold, hel, hb2, hb3, hall, h0, h1, htake, hcast, ih]
      · have hf := fromF_le n l (x.deep + 1)
        have ih1 := from_ok n l (x.deep + 1) [] (by omega) (by simp; omega) hl'
        have hk : TT.lim 17 [.l (l.map one), .i .u8 (x.deep + 1)] = some [.l (fldsG (fromF n l (x.deep + 1)).1), .l ((fromF n l (x.deep + 1)).2.map one)] := by
          refine fn_lim rfl rfl ?_ rfl
          have ih1' : TT.lim 18 [.l (l.map one), .i .u8 (x.deep + 1), .l []] = _ := ih1
          simp [ih1']
        have ih2 := from_ok n (fromF n l (x.deep + 1)).2 deep (acc ++ [.mk x.tag x.typ x.num x.text (fromF n l (x.deep + 1)).1]) (by omega) (by simp; omega) (fun y hy => by
          obtain ⟨_, k, e⟩ := hf
          rw [e] at hy
          exact hl' y (List.mem_of_mem_drop hy))
        have e : fromF (n + 1) (x :: l) deep = (.mk x.tag x.typ x.num x.text (fromF n l (x.deep + 1)).1 :: (fromF n (fromF n l (x.deep + 1)).2 deep).1, (fromF n (fromF n l (x.deep + 1)).2 deep).2) := by
          simp only [fromF, if_pos hd, if_neg h255]
        rw [e]
        rw [List.append_assoc, fldsG_append] at ih2
        generalize fromF n l (x.deep + 1) = p at *
        obtain ⟨p1, p2⟩ := p
        simp only at *
        have e2 : fldsG [Fld.mk x.tag x.typ x.num x.text p1] = [fldE x p1] := rfl
        rw [e2] at ih2
        have hel : (fldE x p1).elemOk 5 = true := rfl
        have hfold : GV.g [.i .u64 x.tag, .i .i64 x.typ, .i .u64 x.num, .s x.text, .l (fldsG p1)] = fldE x p1 := rfl
        have h0 : (0 : Int) < (l.length : Int) + 1 := by omega
        have hw8 := wrapu8 (n := x.deep + 1) (by have := hx.1; omega) (by have := hx.2.1; omega)
        simp [hd, h255, hw, hw8, hk, hfold, hel, hb2, hb3, hall, h0, h1, htake, hcast, ih2]
    · have e : fromF (n + 1) (x :: l) deep = ([], x :: l) := by simp only [fromF, if_neg hd]
      rw [e]
      have h0 : (0 : Int) < (l.length : Int) + 1 := by omega
      simp [hd, h0]
def make8 (l : List One) : List Fld := (fromF (l.length + 1) l 0).1
theorem make8_ok (l : List One) (hl : ∀ x ∈ l, OneOk x) (h60 : l.length ≤ 1000000) : TT.lim 16 [.l (l.map one)] = some [.l (fldsG (make8 l))] := by
  have hk : TT.lim 17 [.l (l.map one), .i .u8 0] = some [.l (fldsG (make8 l)), .l ((fromF (l.length + 1) l 0).2.map one)] := by
    refine fn_lim rfl rfl ?_ rfl
    have ih1 : TT.lim 18 [.l (l.map one), .i .u8 0, .l []] = _ := from_ok (l.length + 1) l 0 [] (by omega) (by simp; omega) hl
    simp [ih1, make8]
  refine fn_lim rfl rfl ?_ rfl
  simp [hk]
structure Bdy where
  kind : Int
  id : Int
  min : Int
  max : Int
  chosen : Int
  flags : Int
  cost : Int
  priority : Int
  deadline : Int
  retry : Int
  epoch : Int
  base : Int
  digest : Int
  lag : Int
  code : Int
  want : Int
  remaining : Int
  allowed : Bool
  name : List UInt8
  region : List UInt8
  note : List UInt8
  d : List Ent
  t : List Row
/-- A message: what it has, and its rest. -/
def msgG (b : Bdy) (r : List GV) : GV := .g [.i .i64 b.kind, .i .u64 b.id, .i .u64 b.min, .i .u64 b.max, .i .u64 b.chosen, .i .u64 b.flags, .i .u64 b.cost, .i .u64 b.priority, .i .u64 b.deadline, .i .u64 b.retry, .i .u64 b.epoch, .i .u64 b.base, .i .u64 b.digest, .i .u64 b.lag, .i .u64 b.code, .i .u64 b.want, .i .i64 b.remaining, .b b.allowed, .s b.name, .s b.region, .s b.note, .l (b.d.map ent), .l (b.t.map row), .l r]
theorem msgG_fold (b : Bdy) (r : List GV) : GV.g [.i .i64 b.kind, .i .u64 b.id, .i .u64 b.min, .i .u64 b.max, .i .u64 b.chosen, .i .u64 b.flags, .i .u64 b.cost, .i .u64 b.priority, .i .u64 b.deadline, .i .u64 b.retry, .i .u64 b.epoch, .i .u64 b.base, .i .u64 b.digest, .i .u64 b.lag, .i .u64 b.code, .i .u64 b.want, .i .i64 b.remaining, .b b.allowed, .s b.name, .s b.region, .s b.note, .l (b.d.map ent), .l (b.t.map row), .l r] = msgG b r := rfl
@[simp] theorem msgG_cells (b : Bdy) (r : List GV) : (msgG b r).cells = [.i .i64 b.kind, .i .u64 b.id, .i .u64 b.min, .i .u64 b.max, .i .u64 b.chosen, .i .u64 b.flags, .i .u64 b.cost, .i .u64 b.priority, .i .u64 b.deadline, .i .u64 b.retry, .i .u64 b.epoch, .i .u64 b.base, .i .u64 b.digest, .i .u64 b.lag, .i .u64 b.code, .i .u64 b.want, .i .i64 b.remaining, .b b.allowed, .s b.name, .s b.region, .s b.note, .l (b.d.map ent), .l (b.t.map row), .l r] := rfl
structure BdyOk (b : Bdy) : Prop where
  kind : -9223372036854775808 ≤ b.kind ∧ b.kind ≤ 9223372036854775807
  id : 0 ≤ b.id ∧ b.id < 18446744073709551616
  min : 0 ≤ b.min ∧ b.min < 18446744073709551616
  max : 0 ≤ b.max ∧ b.max < 18446744073709551616
  chosen : 0 ≤ b.chosen ∧ b.chosen < 18446744073709551616
  flags : 0 ≤ b.flags ∧ b.flags < 18446744073709551616
  cost : 0 ≤ b.cost ∧ b.cost < 18446744073709551616
  priority : 0 ≤ b.priority ∧ b.priority < 18446744073709551616
  deadline : 0 ≤ b.deadline ∧ b.deadline < 18446744073709551616
  retry : 0 ≤ b.retry ∧ b.retry < 18446744073709551616
  epoch : 0 ≤ b.epoch ∧ b.epoch < 18446744073709551616
  base : 0 ≤ b.base ∧ b.base < 18446744073709551616
  digest : 0 ≤ b.digest ∧ b.digest < 18446744073709551616
  lag : 0 ≤ b.lag ∧ b.lag < 18446744073709551616
  code : 0 ≤ b.code ∧ b.code < 18446744073709551616
  want : 0 ≤ b.want ∧ b.want < 18446744073709551616
  remaining : -9223372036854775808 ≤ b.remaining ∧ b.remaining ≤ 9223372036854775807
  name : b.name.length ≤ 140737488351232
  region : b.region.length ≤ 140737488351232
  note : b.note.length ≤ 140737488351232
  d : Ents b.d
  t : Rows b.t
def few18 (b : Bdy) (l : List One) : Bool := decide (b.name.length ≤ 600) && (decide (b.region.length ≤ 600) && (decide (b.note.length ≤ 600) && (few12 b.d && (few13 b.t && few8 l))))
theorem few18_ok (b : Bdy) (l : List One) (hb : BdyOk b) (hl : Ones l) : TT.lim 1 [msgG b (l.map one)] = some [.b (few18 b l)] := by
  have h12 := few4 b.d hb.d
  have h13 := few2 b.t hb.t
  have h8 := few8_ok l hl.1
  have e1 : (decide ((b.name.length : Int) ≤ 600)) = decide (b.name.length ≤ 600) := by rw [Bool.eq_iff_iff]; simp; omega
  have e2 : (decide ((b.region.length : Int) ≤ 600)) = decide (b.region.length ≤ 600) := by rw [Bool.eq_iff_iff]; simp; omega
  have e3 : (decide ((b.note.length : Int) ≤ 600)) = decide (b.note.length ≤ 600) := by rw [Bool.eq_iff_iff]; simp; omega
  refine fn_lim rfl rfl ?_ rfl
  unfold few18
  generalize few12 b.d = c1 at *
  generalize few13 b.t = c2 at *
  generalize few8 l = c3 at *
  cases f1 : decide (b.name.length ≤ 600) with
  | false => rw [f1] at e1; simp at e1; have e1' : ¬ ((b.name.length : Int) ≤ 600) := by omega
             simp [e1']
  | true =>
  rw [f1] at e1; have e1' : ((b.name.length : Int) ≤ 600) := by simpa using e1
  cases f2 : decide (b.region.length ≤ 600) with
  | false => rw [f2] at e2; simp at e2; have e2' : ¬ ((b.region.length : Int) ≤ 600) := by omega
             simp [e1', e2']
  | true =>
  rw [f2] at e2; have e2' : ((b.region.length : Int) ≤ 600) := by simpa using e2
  cases f3 : decide (b.note.length ≤ 600) with
  | false => rw [f3] at e3; simp at e3; have e3' : ¬ ((b.note.length : Int) ≤ 600) := by omega
             simp [e1', e2', e3']
  | true =>
  rw [f3] at e3; have e3' : ((b.note.length : Int) ≤ 600) := by simpa using e3
  cases c1 <;> cases c2 <;> simp [e1', e2', e3', h12, h13, h8]
theorem make18_ok (b : Bdy) (l : List One) (hl : Ones l) (hf : few8 l = true) : TT.lim 15 [msgG b (l.map one)] = some [msgG b (fldsG (make8 l))] := by
  have h8 : l.length ≤ 60 := by unfold few8 at hf; rw [Bool.and_eq_true, decide_eq_true_iff] at hf; exact hf.2
  have hm := make8_ok l hl.2 (by omega)
  refine fn_lim rfl rfl ?_ rfl
  simp [hm, msgG_fold]
theorem has_int {k : IntKind} {g : GV} (h : (GTy.int k).has g) : ∃ n, g = .i k n ∧ k.min ≤ n ∧ n ≤ k.max := by
  simp only [GTy.has] at h
  exact h
theorem has_i64 {g : GV} (h : (GTy.int .i64).has g) : ∃ n, g = .i .i64 n ∧ -9223372036854775808 ≤ n ∧ n ≤ 9223372036854775807 := by
  obtain ⟨n, rfl, h1, h2⟩ := has_int h
  exact ⟨n, rfl, by simpa [IntKind.min, IntKind.signed, IntKind.bits] using h1, by simpa [IntKind.max, IntKind.signed, IntKind.bits] using h2⟩
theorem hasBool {g : GV} (h : GTy.bool.has g) : ∃ b, g = .b b := by simpa only [GTy.has] using h
theorem entl_of {g : GV} (h : (GTy.list true [.str, .str]).has g) : ∃ l : List Ent, Ents l ∧ g = .l (l.map ent) := by
  obtain ⟨xs, rfl, h1, h2⟩ := has_list h
  obtain ⟨rs, h3, rfl⟩ := list_map (f := ent) (p := fun r : Ent => r.1.length ≤ 140737488351232 ∧ r.2.length ≤ 140737488351232) fun x hx => by
    obtain ⟨h4, h5⟩ := h2 x hx
    cases x <;> simp [GV.scalar] at h5
    next cs =>
    simp only [cells_g] at h4
    obtain ⟨a, r, rfl, ha, h4⟩ := hasL_cons h4
    obtain ⟨c, r, rfl, hc, h4⟩ := hasL_cons h4
    obtain rfl := hasL_nil h4
    obtain ⟨u, rfl, hu⟩ := has_str ha
    obtain ⟨v, rfl, hv⟩ := has_str hc
    exact ⟨(u, v), ⟨hu, hv⟩, rfl⟩
  exact ⟨rs, ⟨by rw [List.length_map] at h1; exact h1, h3⟩, rfl⟩
theorem ones_of {g : GV} (h : (GTy.list true [.int .u8, .int .u64, .int .i8, .int .u64, .str]).has g) : ∃ l : List One, Ones l ∧ g = .l (l.map one) := by
  obtain ⟨xs, rfl, h1, h2⟩ := has_list h
  obtain ⟨rs, h3, rfl⟩ := list_map (f := one) (p := OneOk) fun x hx => by
    obtain ⟨h4, h5⟩ := h2 x hx
    cases x <;> simp [GV.scalar] at h5
    next cs =>
    simp only [cells_g] at h4
    obtain ⟨a, r, rfl, ha, h4⟩ := hasL_cons h4
    obtain ⟨c, r, rfl, hc, h4⟩ := hasL_cons h4
    obtain ⟨e, r, rfl, he, h4⟩ := hasL_cons h4
    obtain ⟨f, r, rfl, hf, h4⟩ := hasL_cons h4
    obtain ⟨s, r, rfl, hs, h4⟩ := hasL_cons h4
    obtain rfl := hasL_nil h4
    obtain ⟨a, rfl, a1, a2⟩ := has_int ha
    obtain ⟨c, rfl, c1, c2⟩ := has_u64 hc
    obtain ⟨e, rfl, e1, e2⟩ := has_int he
    obtain ⟨f, rfl, f1, f2⟩ := has_u64 hf
    obtain ⟨s, rfl, hs0⟩ := has_str hs
    have a1' : 0 ≤ a := by simpa [IntKind.min, IntKind.signed] using a1
    have a2' : a ≤ 255 := by simpa [IntKind.max, IntKind.signed, IntKind.bits] using a2
    have e1' : -128 ≤ e := by simpa [IntKind.min, IntKind.signed, IntKind.bits] using e1
    have e2' : e ≤ 127 := by simpa [IntKind.max, IntKind.signed, IntKind.bits] using e2
    exact ⟨⟨a, c, e, f, s⟩, ⟨a1', a2', e1', e2', c1, c2, f1, f2, hs0⟩, rfl⟩
  exact ⟨rs, ⟨by rw [List.length_map] at h1; exact h1, h3⟩, rfl⟩
abbrev rawTy : List GTy := [.int .i64, .int .u64, .int .u64, .int .u64, .int .u64, .int .u64, .int .u64, .int .u64, .int .u64, .int .u64, .int .u64, .int .u64, .int .u64, .int .u64, .int .u64, .int .u64, .int .i64, .bool, .str, .str, .str, .list true [.str, .str], .list true [.list true [.str, .str], .int .u64], .list true [.int .u8, .int .u64, .int .i8, .int .u64, .str]]
theorem raw_of {cs : List GV} (h : GTy.hasL rawTy cs) : ∃ b l, BdyOk b ∧ Ones l ∧ GV.g cs = msgG b (l.map one) := by
  obtain ⟨_, _, rfl, h1, g0⟩ := hasL_cons h; obtain ⟨x0, rfl, k0⟩ := has_i64 h1
  obtain ⟨_, _, rfl, h1, g1⟩ := hasL_cons g0; obtain ⟨x1, rfl, k1⟩ := has_u64 h1
  obtain ⟨_, _, rfl, h1, g2⟩ := hasL_cons g1; obtain ⟨x2, rfl, k2⟩ := has_u64 h1
  obtain ⟨_, _, rfl, h1, g3⟩ := hasL_cons g2; obtain ⟨x3, rfl, k3⟩ := has_u64 h1
  obtain ⟨_, _, rfl, h1, g4⟩ := hasL_cons g3; obtain ⟨x4, rfl, k4⟩ := has_u64 h1
  obtain ⟨_, _, rfl, h1, g5⟩ := hasL_cons g4; obtain ⟨x5, rfl, k5⟩ := has_u64 h1
  obtain ⟨_, _, rfl, h1, g6⟩ := hasL_cons g5; obtain ⟨x6, rfl, k6⟩ := has_u64 h1
  obtain ⟨_, _, rfl, h1, g7⟩ := hasL_cons g6; obtain ⟨x7, rfl, k7⟩ := has_u64 h1
  obtain ⟨_, _, rfl, h1, g8⟩ := hasL_cons g7; obtain ⟨x8, rfl, k8⟩ := has_u64 h1
  obtain ⟨_, _, rfl, h1, g9⟩ := hasL_cons g8; obtain ⟨x9, rfl, k9⟩ := has_u64 h1
  obtain ⟨_, _, rfl, h1, g10⟩ := hasL_cons g9; obtain ⟨x10, rfl, k10⟩ := has_u64 h1
  obtain ⟨_, _, rfl, h1, g11⟩ := hasL_cons g10; obtain ⟨x11, rfl, k11⟩ := has_u64 h1
  obtain ⟨_, _, rfl, h1, g12⟩ := hasL_cons g11; obtain ⟨x12, rfl, k12⟩ := has_u64 h1
  obtain ⟨_, _, rfl, h1, g13⟩ := hasL_cons g12; obtain ⟨x13, rfl, k13⟩ := has_u64 h1
  obtain ⟨_, _, rfl, h1, g14⟩ := hasL_cons g13; obtain ⟨x14, rfl, k14⟩ := has_u64 h1
  obtain ⟨_, _, rfl, h1, g15⟩ := hasL_cons g14; obtain ⟨x15, rfl, k15⟩ := has_u64 h1
  obtain ⟨_, _, rfl, h1, g16⟩ := hasL_cons g15; obtain ⟨x16, rfl, k16⟩ := has_i64 h1
  obtain ⟨_, _, rfl, h1, g17⟩ := hasL_cons g16; obtain ⟨x17, rfl⟩ := hasBool h1
  obtain ⟨_, _, rfl, h1, g18⟩ := hasL_cons g17; obtain ⟨x18, rfl, k18⟩ := has_str h1
  obtain ⟨_, _, rfl, h1, g19⟩ := hasL_cons g18; obtain ⟨x19, rfl, k19⟩ := has_str h1
  obtain ⟨_, _, rfl, h1, g20⟩ := hasL_cons g19; obtain ⟨x20, rfl, k20⟩ := has_str h1
  obtain ⟨_, _, rfl, h1, g21⟩ := hasL_cons g20; obtain ⟨x21, k21, rfl⟩ := entl_of h1
  obtain ⟨_, _, rfl, h1, g22⟩ := hasL_cons g21; obtain ⟨x22, k22, rfl⟩ := rows_of h1
  obtain ⟨_, _, rfl, h1, g23⟩ := hasL_cons g22; obtain ⟨x23, k23, rfl⟩ := ones_of h1
  obtain rfl := hasL_nil g23
  exact ⟨⟨x0, x1, x2, x3, x4, x5, x6, x7, x8, x9, x10, x11, x12, x13, x14, x15, x16, x17, x18, x19, x20, x21, x22⟩, x23, ⟨k0, k1, k2, k3, k4, k5, k6, k7, k8, k9, k10, k11, k12, k13, k14, k15, k16, k18, k19, k20, k21, k22⟩, k23, rfl⟩
def rchk (a b : Int) : Int := if a < 1 then 18 else if b < a then 18 else if 255 < b then 18 else 0
theorem rcheck_ok (a b : Int) : TT.lim 20 [.g [.i .u64 a, .i .u64 b]] = some [.i .i64 (rchk a b)] := by
  refine fn_lim rfl rfl ?_ rfl
  unfold rchk
  by_cases h1 : a < 1
  · simp [h1]
  by_cases h2 : b < a
  · simp [h1, h2]
  by_cases h3 : 255 < b <;> simp [h1, h2, h3]
theorem rcheck23_ok (a b : Int) (h0 : 0 ≤ a) : TT.lim 21 [.i .u64 a, .i .u64 b] = some [.i .i64 (rchk a b)] := by
  refine fn_lim rfl rfl ?_ rfl
  unfold rchk
  by_cases h1 : a < 1
  · have : a = 0 := by omega
    subst this
    simp
  have h1' : a ≠ 0 := by omega
  by_cases h2 : b < a
  · simp [h1, h1', h2]
  by_cases h3 : 255 < b <;> simp [h1, h1', h2, h3]
def ofHelloF (b : Bdy) : Int × Int × Int := if b.kind ≠ 1 then (0, 0, 15) else if rchk b.min b.max ≠ 0 then (0, 0, rchk b.min b.max) else (b.min, b.max, 0)
theorem ofHello_ok (b : Bdy) (r : List GV) : TT.lim 19 [msgG b r] = some [.g [.i .u64 (ofHelloF b).1, .i .u64 (ofHelloF b).2.1], .i .i64 (ofHelloF b).2.2] := by
  have hc := rcheck_ok b.min b.max
  refine fn_lim rfl rfl ?_ rfl
  unfold ofHelloF
  generalize rchk b.min b.max = c at *
  by_cases h1 : b.kind = 1
  · by_cases h2 : c = 0
    · subst h2
      simp [h1, hc]
    · simp [h1, h2, hc]
  · simp [h1]
def helloB (a c : Int) (n : List UInt8) : Bdy := ⟨1, 0, a, c, 0, 0, 0, 0, 0, 0, 0, 0, 0, 0, 0, 0, 0, false, n, [], [], [], []⟩
theorem hello_ok (a c : Int) (n : List UInt8) : TT.lim 22 [.g [.i .u64 a, .i .u64 c], .s n] = some [msgG (helloB a c n) []] := by
  refine fn_lim rfl rfl ?_ rfl
  simp [msgG, helloB]
set_option maxHeartbeats 2000000 in
theorem agreeHellos (gs : List GV) (h : hasArgs [(true, rawTy), (true, [.int .u64, .int .u64]), (false, [.str])] gs) : TT.lim 0 gs = some [.b true] := by
  obtain ⟨c, gs, rfl, h1, h⟩ := hasA_agg h
  obtain ⟨d, gs, rfl, h2, h⟩ := hasA_agg h
  obtain ⟨s, gs, rfl, h3, h⟩ := hasA_sc h
  obtain rfl := hasA_nil h
  obtain ⟨b, l, hb, hl, e⟩ := raw_of h1
  rw [e]
  obtain ⟨_, _, rfl, g1, g2⟩ := hasL_cons h2
  obtain ⟨x, rfl, hx⟩ := has_u64 g1
  obtain ⟨_, _, rfl, g3, g4⟩ := hasL_cons g2
  obtain ⟨y, rfl, hy⟩ := has_u64 g3
  obtain rfl := hasL_nil g4
  obtain ⟨n, rfl, hn⟩ := has_str h3
  have hf := few18_ok b l hb hl
  have hm := make18_ok b l hl
  have hh := hello_ok x y n
  have hr := rcheck_ok x y
  have hr2 := rcheck23_ok b.min b.max hb.min.1
  have ho := ofHello_ok b (fldsG (make8 l))
  have ho2 := ofHello_ok (helloB x y n) []
  have e1 : ofHelloF (helloB x y n) = if rchk x y = 0 then (x, y, 0) else (0, 0, rchk x y) := by
    unfold ofHelloF helloB
    simp
  have e2 : ofHelloF b = if b.kind = 1 then (if rchk b.min b.max = 0 then (b.min, b.max, 0) else (0, 0, rchk b.min b.max)) else (0, 0, 15) := by
    unfold ofHelloF
    simp
  rw [e1] at ho2
  rw [e2] at ho
  have hfew : few18 b l = true → few8 l = true := fun h => by
    unfold few18 at h
    simp only [Bool.and_eq_true] at h
    exact h.2.2.2.2.2
  refine fn_lim rfl rfl ?_ rfl
  generalize few18 b l = f1 at *
  cases f1 with
  | false => simp [msgG_fold, hf]
  | true =>
  have hm := hm (hfew rfl)
  generalize fldsG (make8 l) = rr at *
  generalize rchk b.min b.max = q1 at *
  generalize hq2 : rchk x y = q2 at *
  by_cases hn6 : (600 : Int) < n.length
  · simp [msgG_fold, hf, hn6]
  by_cases k1 : b.kind = 1
  · have k1 : (b.kind = 1) = True := eq_true k1
    by_cases k2 : q1 = 0
    · by_cases k3 : q2 = 0
      · subst k2; subst k3
        simp only [k1, if_true] at ho ho2
        simp [msgG_fold, hf, hn6, hm, hh, hr, hr2, ho, ho2, k1, eqGs] <;> simp [helloB]
      · subst k2
        simp only [k1, k3, if_true, if_false] at ho ho2
        simp [msgG_fold, hf, hn6, hm, hh, hr, hr2, ho, ho2, k1, k3, eqGs] <;> simp [helloB]
    · by_cases k3 : q2 = 0
      · subst k3
        simp only [k1, k2, if_true, if_false] at ho ho2
        simp [msgG_fold, hf, hn6, hm, hh, hr, hr2, ho, ho2, k1, k2, eqGs] <;> simp [helloB]
      · simp only [k1, k2, k3, if_true, if_false] at ho ho2
        simp [msgG_fold, hf, hn6, hm, hh, hr, hr2, ho, ho2, k1, k2, k3, eqGs] <;> simp [helloB]
  · by_cases k3 : q2 = 0
    · subst k3
      simp only [k1, if_true, if_false] at ho ho2
      simp [msgG_fold, hf, hn6, hm, hh, hr, hr2, ho, ho2, k1, eqGs] <;> simp [helloB]
    · simp only [k1, k3, if_true, if_false] at ho ho2
      simp [msgG_fold, hf, hn6, hm, hh, hr, hr2, ho, ho2, k1, k3, eqGs] <;> simp [helloB]
@[simp] theorem fldG_cells (t y n : Int) (s : List UInt8) (k : List Fld) : (fldG (.mk t y n s k)).cells = [.i .u64 t, .i .i64 y, .i .u64 n, .s s, .l (fldsG k)] := by simp only [fldG]; rfl
end HA
end Go.Proofs.YtckgelanagoenaaGreatDoor
