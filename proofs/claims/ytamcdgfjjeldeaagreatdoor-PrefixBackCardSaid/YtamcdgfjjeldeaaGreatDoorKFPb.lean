/- What the trees compute: plain laws. -/
import Derived.Test.YtamcdgfjjeldeaaGreatDoorKFT
import Derived.Test.YtamcdgfjjeldeaaGreatDoorAbsPl
import Derived.Lib.TrimUEq
import Derived.Lib.MapLaws
namespace Go.Proofs.YtamcdgfjjeldeaaGreatDoor
open Go Go.Abs
set_option linter.unusedSimpArgs false
set_option linter.unusedVariables false
set_option maxRecDepth 100000
namespace F
theorem bytesLess_lt : ∀ a b : List UInt8, Op.bytesLess a b = decide (a < b)
  | _, [] => by simp [Op.bytesLess]
  | [], _ :: _ => by simp [Op.bytesLess]
  | a :: x, b :: y => by
    rw [Op.bytesLess, bytesLess_lt x y, Bool.eq_iff_iff]
    simp [List.cons_lt_cons_iff]
/-- An entry: key and value. A row: its entries and its number. -/
abbrev Ent := List UInt8 × List UInt8
abbrev Row := List Ent × Int
/-- Texts and lists of no more than any machine bears. -/
def Ents (d : List Ent) : Prop := d.length ≤ 140737488351232 ∧ ∀ x ∈ d, x.1.length ≤ 140737488351232 ∧ x.2.length ≤ 140737488351232
def Rows (l : List Row) : Prop := l.length ≤ 140737488351232 ∧ ∀ r ∈ l, Ents r.1 ∧ 0 ≤ r.2 ∧ r.2 < 18446744073709551616
def fewE (x : Ent) : Bool := decide (x.1.length + x.2.length ≤ 600)
def few12 (d : List Ent) : Bool := d.all fewE && decide (d.length ≤ 40)
def vput (n : Nat) : List UInt8 := if n < 128 then [UInt8.ofNat n] else UInt8.ofNat (n % 128 + 128) :: vput (n / 128)
termination_by n
decreasing_by omega
theorem vput_lt {n : Nat} (h : n < 128) : vput n = [UInt8.ofNat n] := by rw [vput, if_pos h]
theorem vput_ge {n : Nat} (h : ¬ n < 128) : vput n = UInt8.ofNat (n % 128 + 128) :: vput (n / 128) := by rw [vput, if_neg h]
def vsize (n : Nat) : Nat := (vput n).length
theorem shr7 {n : Int} (h0 : 0 ≤ n) : n.fdiv (2 ^ (7 : Nat)) = n / 128 := by
  rw [Int.fdiv_eq_ediv_of_nonneg _ (by decide)]; rfl
theorem shr_u64 {n : Nat} : shG .shr .u64 (n : Int) 7 = some (.i .u64 ((n / 128 : Nat) : Int)) := by
  have : ((n : Int)).fdiv (2 ^ (7 : Nat)) = ((n / 128 : Nat) : Int) := by rw [shr7 (by omega)]; omega
  simp [shG, IntKind.bits]
  exact this
theorem vsize_pos (n : Nat) : 0 < vsize n := by unfold vsize; rw [vput]; split <;> simp
theorem vsize_ge {n : Nat} (h : ¬ n < 128) : vsize n = vsize (n / 128) + 1 := by unfold vsize; rw [vput_ge h]; rfl
theorem vsize_le : ∀ (k n : Nat), 0 < k → n < 128 ^ k → vsize n ≤ k
  | 0, _, h, _ => by omega
  | k + 1, n, _, h => by
    by_cases hn : n < 128
    · unfold vsize; rw [vput_lt hn]; simp
    · rw [vsize_ge hn]
      cases k with
      | zero => simp at h; omega
      | succ k =>
        have : n / 128 < 128 ^ (k + 1) := by rw [Nat.pow_succ] at h; omega
        have := vsize_le (k + 1) (n / 128) (by omega) this
        omega
theorem vsize64 {n : Nat} (h : n < 18446744073709551616) : vsize n ≤ 10 := vsize_le 10 n (by omega) (by omega)
theorem loop9 : ∀ (n s : Nat), s + vsize n ≤ 1000 → n < 18446744073709551616 → TT.lim 10 [.i .u64 n, .i .i64 s] = some [.i .i64 0, .i .i64 ((s + vsize n - 1 : Nat) : Int)] := by
  intro n
  induction n using Nat.strongRecOn with
  | _ n ih =>
    intro s hs hn
    refine tree_lim rfl rfl ?_
    by_cases h : n < 128
    · have h' : ¬ (128 : Int) ≤ n := by omega
      simp [h', vsize, vput_lt h]
    · have h' : (128 : Int) ≤ n := by omega
      have hv := vsize_ge h
      have hp := vsize_pos (n / 128)
      have hw := wrap64 (n := (s : Int) + 1) (by omega) (by omega)
      have ih' : TT.lim 10 [.i .u64 ((n / 128 : Nat) : Int), .i .i64 ((s : Int) + 1)] = _ := ih (n / 128) (by omega) (s + 1) (by omega) (by omega)
      have hn' : s + vsize n - 1 = s + 1 + vsize (n / 128) - 1 := by omega
      rw [hn']
      have h7 : shG .shr .u64 (n : Int) 7 = some (.i .u64 ((n / 128 : Nat) : Int)) := shr_u64
      generalize ((n / 128 : Nat) : Int) = q at h7 ih'
      simp [h', hw, h7, ih']
theorem size8 (n : Nat) (hn : n < 18446744073709551616) : TT.lim 9 [.i .u64 n] = some [.i .i64 (vsize n)] := by
  have hp := vsize_pos n
  have h9 : TT.lim 10 [.i .u64 n, .i .i64 1] = _ := loop9 n 1 (by have := vsize64 hn; omega) hn
  rw [show 1 + vsize n - 1 = vsize n by omega] at h9
  refine fn_lim rfl rfl ?_ rfl
  simp [h9]
/-- The bytes of a number, each with its high bit set. -/
def vraw : Nat → Nat → List Nat
  | 0, _ => []
  | k + 1, n => (n % 128 + 128) :: vraw k (n / 128)
def byteG (n : Nat) : GV := .i .u8 n
theorem and127 (n : Nat) (hn : n < 18446744073709551616) : intG .and .u64 (n : Int) 127 = some (.i .u64 ((n % 128 : Nat) : Int)) := by
  have h1 : ((BitVec.ofInt 64 (n : Int) &&& BitVec.ofInt 64 127).toNat : Nat) = n % 128 := by
    rw [BitVec.toNat_and, BitVec.toNat_ofInt, BitVec.toNat_ofInt]
    have e1 : ((n : Int) % ((2 ^ 64 : Nat) : Int)).toNat = n := by omega
    have e2 : ((127 : Int) % ((2 ^ 64 : Nat) : Int)).toNat = 2 ^ 7 - 1 := by decide
    rw [e1, e2, Nat.and_two_pow_sub_one_eq_mod]
  show some (GV.i .u64 (IntKind.u64.wrap (((BitVec.ofInt 64 (n : Int) &&& BitVec.ofInt 64 127).toNat : Nat) : Int))) = _
  rw [h1, wrapu64 (by omega) (by omega)]
theorem and127_8 (n : Nat) (hn : n < 256) : intG .and .u8 (n : Int) 127 = some (.i .u8 ((n % 128 : Nat) : Int)) := by
  have : ∀ x : Fin 256, IntKind.u8.wrap (((BitVec.ofInt IntKind.u8.bits ((x.val : Nat) : Int) &&& BitVec.ofInt IntKind.u8.bits 127).toNat : Nat) : Int) = ((x.val % 128 : Nat) : Int) := by decide +kernel
  show some (GV.i .u8 _) = some (GV.i .u8 _)
  exact congrArg (fun z => some (GV.i .u8 z)) (this ⟨n, hn⟩)
theorem or128 (n : Nat) (hn : n < 128) : intG .or .u8 (n : Int) 128 = some (.i .u8 ((n + 128 : Nat) : Int)) := by
  have : ∀ x : Fin 128, IntKind.u8.wrap (((BitVec.ofInt IntKind.u8.bits ((x.val : Nat) : Int) ||| BitVec.ofInt IntKind.u8.bits 128).toNat : Nat) : Int) = ((x.val + 128 : Nat) : Int) := by decide +kernel
  show some (GV.i .u8 _) = some (GV.i .u8 _)
  exact congrArg (fun z => some (GV.i .u8 z)) (this ⟨n, hn⟩)
theorem wrapu8 {n : Int} (h0 : 0 ≤ n) (h1 : n < 256) : IntKind.u8.wrap n = n := by
  have : IntKind.u8.wrap n = n % 256 := by simp [IntKind.wrap, IntKind.signed, IntKind.bits]
  rw [this]; omega
@[simp] theorem byteG_cells (n : Nat) : (byteG n).cells = [byteG n] := rfl
@[simp] theorem byteG_scalar (n : Nat) : (byteG n).scalar = true := rfl
@[simp] theorem byteG_put (n : Nat) (v : GV) : (byteG n).put 0 [v] = some v := rfl
theorem bytesG_map : ∀ l : List Nat, (∀ x ∈ l, x < 256) → bytesG (l.map byteG) = some (l.map UInt8.ofNat)
  | [], _ => rfl
  | a :: l, h => by
    have h1 := h a (by simp)
    have h2 := bytesG_map l fun x hx => h x (by simp [hx])
    simp only [List.map_cons, byteG, bytesG] at h2 ⊢
    rw [if_pos (by omega)]
    have : (fun n : Nat => GV.i .u8 (n : Int)) = byteG := rfl
    rw [h2]
    simp
theorem loop10 : ∀ (m n : Nat) (done : List Nat), n < 18446744073709551616 → done.length + m < 1000 →
    TT.lim 11 [.i .u64 n, .l ((done ++ List.replicate m 0).map byteG), .i .i64 ((done.length + m : Nat) : Int), .i .i64 done.length] = some [.i .i64 0, .l ((done ++ vraw m n).map byteG)]
  | 0, n, done, hn, hd => by
    refine tree_lim rfl rfl ?_
    simp [vraw]
  | m + 1, n, done, hn, hd => by
    have hlt : (done.length : Int) < ((done.length + (m + 1) : Nat) : Int) := by omega
    have hw := wrap64 (n := (done.length : Int) + 1) (by omega) (by omega)
    have hw8 := wrapu8 (n := ((n % 128 : Nat) : Int)) (by omega) (by omega)
    have h7 : shG .shr .u64 (n : Int) 7 = some (.i .u64 ((n / 128 : Nat) : Int)) := shr_u64
    have ha := and127 n hn
    have ho := or128 (n % 128) (by omega)
    have ih := loop10 m (n / 128) (done ++ [n % 128 + 128]) (by omega) (by simp; omega)
    have hlen : (done ++ [n % 128 + 128]).length + m = done.length + (m + 1) := by simp; omega
    rw [hlen] at ih
    have hl2 : (((done ++ [n % 128 + 128]).length : Nat) : Int) = (done.length : Int) + 1 := by simp
    rw [hl2] at ih
    have hset : ((done ++ List.replicate (m + 1) 0).map byteG).set done.length (byteG (n % 128 + 128)) = (done ++ [n % 128 + 128] ++ List.replicate m 0).map byteG := by
      rw [List.replicate_succ, ← List.map_set, List.set_append_right _ _ (Nat.le_refl _), Nat.sub_self]
      simp
    have hget : ((done ++ List.replicate (m + 1) 0).map byteG)[done.length]? = some (byteG 0) := by
      rw [List.getElem?_map, List.getElem?_append_right (Nat.le_refl _), Nat.sub_self, List.replicate_succ]; rfl
    have hll : ((done ++ List.replicate (m + 1) 0).map byteG).length = done.length + (m + 1) := by simp
    have hv : done ++ vraw (m + 1) n = done ++ [n % 128 + 128] ++ vraw m (n / 128) := by simp [vraw]
    rw [hv]
    generalize hL : (done ++ List.replicate (m + 1) 0).map byteG = L at *
    refine tree_lim rfl rfl ?_
    have hix : (0 : Int) ≤ (done.length : Int) ∧ (done.length : Int) < (L.length : Int) := by rw [hll]; omega
    have hob : GV.i IntKind.u8 ((n % 128 + 128 : Nat) : Int) = byteG (n % 128 + 128) := rfl
    have hset' : L.set done.length (GV.i IntKind.u8 ((n % 128 + 128 : Nat) : Int)) = (done ++ [n % 128 + 128] ++ List.replicate m 0).map byteG := hset
    generalize (done ++ [n % 128 + 128] ++ List.replicate m 0).map byteG = L2 at ih hset'
    generalize (done ++ [n % 128 + 128] ++ vraw m (n / 128)).map byteG = L3 at ih ⊢
    generalize ((n / 128 : Nat) : Int) = q at h7 ih
    generalize ((n % 128 + 128 : Nat) : Int) = z at ho hset'
    generalize ((n % 128 : Nat) : Int) = rr at ha hw8 ho
    generalize ((done.length + (m + 1) : Nat) : Int) = N at hlt ih ⊢
    simp [hlt, ha, hw8, ho, hix, hget, h7, hw, hset', ih]
theorem vraw_len : ∀ m n, (vraw m n).length = m
  | 0, _ => rfl
  | m + 1, n => by simp [vraw, vraw_len m]
theorem vraw_lt : ∀ m n, ∀ x ∈ vraw m n, x < 256
  | 0, _, x, h => by simp [vraw] at h
  | m + 1, n, x, h => by
    simp only [vraw, List.mem_cons] at h
    rcases h with rfl | h
    · omega
    · exact vraw_lt m _ x h
/-- The last byte without its high bit: as numbers are written. -/
theorem vraw_put : ∀ (s n : Nat), vsize n = s + 1 → ∃ x, (vraw (s + 1) n)[s]? = some x ∧ ((vraw (s + 1) n).set s (x % 128)).map UInt8.ofNat = vput n
  | 0, n, h => by
    have hn : n < 128 := by
      by_cases hn : n < 128
      · exact hn
      · rw [vsize_ge hn] at h; have := vsize_pos (n / 128); omega
    refine ⟨n % 128 + 128, by simp [vraw], ?_⟩
    rw [vput_lt hn]
    simp [vraw]
    rw [Nat.mod_eq_of_lt hn]
  | s + 1, n, h => by
    have hn : ¬ n < 128 := by
      intro hn
      unfold vsize at h; rw [vput_lt hn] at h; simp at h
    rw [vsize_ge hn] at h
    obtain ⟨x, h1, h2⟩ := vraw_put s (n / 128) (by omega)
    refine ⟨x, by simp only [vraw, List.getElem?_cons_succ] at h1 ⊢; exact h1, ?_⟩
    rw [vput_ge hn, ← h2]
    simp [vraw]
theorem put7 (n : Nat) (hn : n < 18446744073709551616) : TT.lim 8 [.i .u64 n] = some [.s (vput n)] := by
  have h8 := size8 n hn
  have hp := vsize_pos n
  have hs := vsize64 hn
  obtain ⟨s, hs1⟩ : ∃ s, vsize n = s + 1 := ⟨vsize n - 1, by omega⟩
  obtain ⟨x, h1, h2⟩ := vraw_put s n hs1
  rw [hs1] at h8
  have h10 : TT.lim 11 [.i .u64 n, .l ((List.replicate (s + 1) 0).map byteG), .i .i64 ((s + 1 : Nat) : Int), .i .i64 0] = some [.i .i64 0, .l ((vraw (s + 1) n).map byteG)] := by
    have := loop10 (s + 1) n [] hn (by simp; omega)
    simpa using this
  have hr : (List.replicate (s + 1) 0).map byteG = List.replicate (s + 1) (GV.i .u8 0) := by rw [List.map_replicate]; rfl
  rw [hr] at h10
  have hx : x < 256 := vraw_lt _ _ x (List.mem_of_getElem? h1)
  have ha := and127_8 x hx
  have hget : ((vraw (s + 1) n).map byteG)[s]? = some (byteG x) := by rw [List.getElem?_map, h1]; rfl
  have hset : ((vraw (s + 1) n).map byteG).set s (GV.i .u8 ((x % 128 : Nat) : Int)) = ((vraw (s + 1) n).set s (x % 128)).map byteG := (List.map_set (f := byteG) (l := vraw (s + 1) n) (i := s) (a := x % 128)).symm
  have hb := bytesG_map ((vraw (s + 1) n).set s (x % 128)) (fun y hy => by
    rcases List.mem_or_eq_of_mem_set hy with hy | rfl
    · exact vraw_lt _ _ y hy
    · omega)
  rw [h2] at hb
  have hlen : (((vraw (s + 1) n).set s (x % 128)).map byteG).length = s + 1 := by simp [vraw_len]
  have hlr : (List.replicate (s + 1) (GV.i .u8 0)).length = s + 1 := by simp
  have hl1 : ((vraw (s + 1) n).map byteG).length = s + 1 := by simp [vraw_len]
  generalize ((vraw (s + 1) n).set s (x % 128)).map byteG = L3 at hset hb hlen
  generalize (vraw (s + 1) n).map byteG = L2 at h10 hget hset hl1
  generalize hrep : List.replicate (s + 1) (GV.i .u8 0) = L1 at h10 hlr
  refine fn_lim rfl rfl ?_ rfl
  have hw := wrap64 (n := (s : Int)) (by omega) (by omega)
  have hcast : ((s + 1 : Nat) : Int) = (s : Int) + 1 := by omega
  rw [hcast] at h8 h10
  have hc1 : (0 : Int) ≤ (s : Int) + 1 ∧ (s : Int) + 1 ≤ 281474976710656 ∧ (s : Int) + 1 ≤ 1152921504606846976 := by omega
  have hc2 : ((s : Int) + 1).toNat = s + 1 := by omega
  have hlt : (s : Int) < (s : Int) + 1 := by omega
  have hs2 : (s : Int) + 1 - 1 = (s : Int) := by omega
  generalize hM : ((x % 128 : Nat) : Int) = M at ha hset
  have hxx : byteG x = .i .u8 x := rfl
  have h48 : s + 1 ≤ 281474976710656 := by omega
  have hg2 : L2[s]'(by omega) = byteG x := by have := hget; rw [List.getElem?_eq_getElem (by omega)] at this; exact Option.some.inj this
  simp [h8, hc1, hc2, hrep, hlr, h10, hl1, hs2, hw, hlt, hget, hg2, ha, hset, hxx, hlen, hb, h48, GV.elemOk]
theorem byteGs_append (a b : List UInt8) : byteGs (a ++ b) = byteGs a ++ byteGs b := by simp [byteGs]
@[simp] theorem byteGs_length (a : List UInt8) : (byteGs a).length = a.length := by simp [byteGs]
theorem byteGs_ok (a : List UInt8) : (byteGs a).all (GV.elemOk 1) = true := by
  rw [List.all_eq_true]
  intro x hx
  obtain ⟨b, _, rfl⟩ := List.mem_map.1 hx
  rfl
theorem bytesG_byteGs : ∀ a : List UInt8, bytesG (byteGs a) = some a
  | [] => rfl
  | x :: a => by
    have ih := bytesG_byteGs a
    simp only [byteGs, List.map_cons, bytesG] at ih ⊢
    have := x.toNat_lt
    rw [if_pos (by omega), ih]
    simp
def entPut (x : Ent) : List UInt8 := vput x.1.length ++ x.1 ++ vput x.2.length ++ x.2
def keyF (d : List Ent) : List UInt8 := vput d.length ++ d.flatMap entPut
theorem vput_len {n : Nat} (h : n < 18446744073709551616) : (vput n).length ≤ 10 := vsize64 h
def utfChk (s : List UInt8) (lo hi : Int) : Int := if (s.length : Int) < lo then 13 else if hi < (s.length : Int) then 13 else if Lib.validD s = true then 0 else 11
def entChk (x : Ent) : Int := if utfChk x.1 1 64 ≠ 0 then utfChk x.1 1 64 else utfChk x.2 0 256
def chkL : Option (List UInt8) → List Ent → Int
  | _, [] => 0
  | p, x :: xs => if entChk x ≠ 0 then entChk x else match p with
    | none => chkL (some x.1) xs
    | some k => if x.1 = k then 14 else if Op.bytesLess x.1 k = true then 7 else chkL (some x.1) xs
def descrChk (d : List Ent) : Int := if d.length = 0 then 12 else if 16 < d.length then 13 else chkL none d
def rowChk (r : Row) : Int := if descrChk r.1 ≠ 0 then descrChk r.1 else if r.2 = 0 then 18 else 0
abbrev K (r : Row) : List UInt8 := keyF r.1
theorem bl_iff (a b : List UInt8) : Op.bytesLess a b = true ↔ a < b := by rw [bytesLess_lt]; simp
theorem bl_not (a b : List UInt8) : Op.bytesLess a b = false ↔ ¬ a < b := by rw [bytesLess_lt]; simp
/-- Rows whose keys rise. -/
def Rise (l : List Row) : Prop := l.Pairwise fun a b => K a < K b
def Pos (t : List Row) : Prop := ∀ r ∈ t, 0 < r.2 ∧ r.2 < 18446744073709551616
def Few (t : List Row) : Prop := ∀ r ∈ t, few12 r.1 = true
def Ok (t : List Row) : Prop := t.length ≤ 256 ∧ Rise t ∧ ∀ r ∈ t, rowChk r = 0
theorem rowChk_iff (r : Row) : rowChk r = 0 ↔ descrChk r.1 = 0 ∧ r.2 ≠ 0 := by
  unfold rowChk
  by_cases h : descrChk r.1 = 0
  · simp [h]
  · simp [h]
structure Tb (t : List Row) : Prop where
  ok : Ok t
  rows : Rows t
  few : Few t
theorem Tb.pos {t : List Row} (h : Tb t) : Pos t := fun r hr => by
  have h1 := ((rowChk_iff r).1 (h.ok.2.2 r hr)).2
  have h2 := (h.rows.2 r hr).2
  omega
def common : List UInt8 → List UInt8 → Nat
  | a :: x, b :: y => if a = b then common x y + 1 else 0
  | _, _ => 0
theorem common_nil (b : List UInt8) : common [] b = 0 := by unfold common; rfl
theorem common_nil' (a : List UInt8) : common a [] = 0 := by cases a <;> rfl
theorem common_le : ∀ a b : List UInt8, common a b ≤ a.length ∧ common a b ≤ b.length
  | [], b => by simp [common]
  | _ :: _, [] => by simp [common]
  | a :: x, b :: y => by
    unfold common
    have := common_le x y
    split
    · simp only [List.length_cons]; omega
    · omega
theorem common_take : ∀ a b : List UInt8, a.take (common a b) = b.take (common a b)
  | [], b => by simp [common]
  | _ :: _, [] => by simp [common]
  | a :: x, b :: y => by
    unfold common
    split
    · next e => subst e; rw [List.take_succ_cons, List.take_succ_cons, common_take x y]
    · simp
theorem comLoop (a b : List UInt8) (ha : a.length ≤ 140737488351232) (hb : b.length ≤ 140737488351232) : ∀ m i : Nat, i + m = a.length → TT.lim 7 [.s a, .s b, .i .i64 i] = some [.i .i64 0, .i .i64 ((i + common (a.drop i) (b.drop i) : Nat) : Int)]
  | 0, i, hi => by
    have h0 : a.drop i = [] := List.drop_eq_nil_of_le (by omega)
    have h : ¬ ((i : Int) < a.length) := by omega
    refine tree_lim rfl rfl ?_
    simp [h, h0, common_nil]
  | m + 1, i, hi => by
    have hlt : i < a.length := by omega
    have h : ((i : Int) < a.length) := by omega
    by_cases hlb : i < b.length
    rotate_left
    · have h0 : b.drop i = [] := List.drop_eq_nil_of_le (by omega)
      have h1 : ¬ ((i : Int) < b.length) := by omega
      refine tree_lim rfl rfl ?_
      simp [h, h0, h1, common_nil']
    have hb1 : ((i : Int) < b.length) := by omega
    have ih : TT.lim 7 [.s a, .s b, .i .i64 ((i : Int) + 1)] = _ := comLoop a b ha hb m (i + 1) (by omega)
    have hw := wrap64 (n := (i : Int) + 1) (by omega) (by omega)
    rw [List.drop_eq_getElem_cons hlt, List.drop_eq_getElem_cons hlb]
    unfold common
    by_cases e : a[i] = b[i]
    · rw [if_pos e]
      have e' : ((a[i].toNat : Int) = (b[i].toNat : Int)) = True := eq_true (by rw [e])
      have e2 : ((i + (common (a.drop (i + 1)) (b.drop (i + 1)) + 1) : Nat) : Int) = ((i + 1 + common (a.drop (i + 1)) (b.drop (i + 1)) : Nat) : Int) := by omega
      rw [e2]
      refine tree_lim rfl rfl ?_
      simp [h, hlt, hlb, hb1, e', hw, ih]
    · rw [if_neg e]
      have e' : ¬ (a[i].toNat : Int) = (b[i].toNat : Int) := fun h => e (UInt8.toNat_inj.1 (by omega))
      refine tree_lim rfl rfl ?_
      simp [h, hlt, hlb, hb1, e']
theorem comP (a b : List UInt8) (ha : a.length ≤ 140737488351232) (hb : b.length ≤ 140737488351232) : TT.lim 6 [.s a, .s b] = some [.i .i64 (common a b)] := by
  have k : TT.lim 7 [.s a, .s b, .i .i64 0] = _ := comLoop a b ha hb a.length 0 (by omega)
  rw [List.drop_zero, List.drop_zero, Nat.zero_add] at k
  refine fn_lim rfl rfl ?_ rfl
  simp [k]
/-- A text behind another one, as it is written. -/
def oneF (a s : List UInt8) : List UInt8 := vput (common a s) ++ vput (s.length - common a s) ++ s.drop (common a s)
theorem oneP (a s : List UInt8) (ha : a.length ≤ 100000000) (hs : s.length ≤ 100000000) : TT.lim 5 [.s a, .s s] = some [.s (oneF a s)] := by
  have k := comP a s (by omega) (by omega)
  have hl := common_le a s
  have p1 := put7 (common a s) (by omega)
  have p2 := put7 (s.length - common a s) (by omega)
  have l1 := vput_len (n := common a s) (by omega)
  have l2 := vput_len (n := s.length - common a s) (by omega)
  have w1 := wrapu64 (n := (common a s : Int)) (by omega) (by omega)
  have w2 := wrapu64 (n := (s.length : Int) - (common a s : Int)) (by omega) (by omega)
  have w3 := wrap64 (n := (s.length : Int) - (common a s : Int)) (by omega) (by omega)
  have e2 : (s.length : Int) - (common a s : Int) = ((s.length - common a s : Nat) : Int) := by omega
  rw [e2] at w2 w3
  refine fn_lim rfl rfl ?_ rfl
  unfold oneF
  generalize common a s = c at *
  have h1 : ((vput c).length : Int) + ((vput (s.length - c)).length : Int) ≤ 9223372036854775807 := by omega
  have h2 : ((vput c).length : Int) + ((vput (s.length - c)).length : Int) + ((s.length : Int) - (c : Int)) ≤ 9223372036854775807 := by omega
  have h3 : (c : Int) ≤ s.length := by omega
  have h4 : ((s.length - c : Nat) : Int) = (s.length : Int) - c := by omega
  have hd : (s.take s.length).drop c = s.drop c := by rw [List.take_length]
  rw [← e2] at w2 w3
  rw [← e2] at p2
  simp [k, p1, p2, w1, w2, w3, h1, h2, h3, h4, hd]
def vval : List UInt8 → Nat
  | [] => 0
  | b :: r => b.toNat % 128 + 128 * vval r
def vlen : Nat → List UInt8 → Option Nat
  | 0, _ => none
  | _ + 1, [] => none
  | n + 1, b :: r => if b.toNat < 128 then some 1 else (vlen n r).map (· + 1)
def vbad (k : Nat) (b : Nat) : Int := if k = 10 ∧ 1 < b then 3 else if 1 < k ∧ b = 0 then 2 else 0
/-- The number that a text begins with, in how many bytes, or why there is none. -/
def vget (s : List UInt8) : Nat × Nat × Int := match vlen 10 s with
  | none => (0, 0, if 10 ≤ s.length then 3 else 1)
  | some k => if vbad k (s.getD (k - 1) 0).toNat ≠ 0 then (0, 0, vbad k (s.getD (k - 1) 0).toNat) else (vval (s.take k), k, 0)
theorem vlen_some : ∀ {n : Nat} {s : List UInt8} {k : Nat}, vlen n s = some k → 1 ≤ k ∧ k ≤ n ∧ k ≤ s.length ∧ (s.getD (k - 1) 0).toNat < 128
  | 0, s, k, h => by simp [vlen] at h
  | n + 1, [], k, h => by simp [vlen] at h
  | n + 1, b :: r, k, h => by
    unfold vlen at h
    split at h
    · next hb => cases h; simpa using hb
    · obtain ⟨j, hj, rfl⟩ := Option.map_eq_some_iff.1 h
      obtain ⟨h1, h2, h3, h4⟩ := vlen_some hj
      obtain ⟨i, rfl⟩ : ∃ i, j = i + 1 := ⟨j - 1, by omega⟩
      refine ⟨by omega, by omega, by simp; omega, ?_⟩
      simpa using h4
theorem vval_lt : ∀ (s : List UInt8), vval s < 128 ^ s.length
  | [] => by simp [vval]
  | b :: r => by
    have := vval_lt r
    simp only [vval, List.length_cons, Nat.pow_succ]
    omega
theorem shl7 (b i : Nat) (hb : b < 128) (hi : i ≤ 9) (h9 : i = 9 → b ≤ 1) : shG .shl .u64 (b : Int) ((7 * i : Nat) : Int) = some (.i .u64 ((b * 128 ^ i : Nat) : Int)) := by
  have e : min ((7 * i : Nat) : Int).toNat 64 = 7 * i := by simp; omega
  have e2 : (2 : Int) ^ (7 * i) = ((128 ^ i : Nat) : Int) := by rw [Int.pow_mul]; simp
  have hlt : b * 128 ^ i < 18446744073709551616 := by
    rcases Nat.lt_or_ge i 9 with h | h
    · have : (128 : Nat) ^ i ≤ 128 ^ 8 := Nat.pow_le_pow_right (by omega) (by omega)
      have h2 : b * 128 ^ i ≤ 127 * 128 ^ 8 := Nat.mul_le_mul (by omega) this
      omega
    · have hi9 : i = 9 := by omega
      subst hi9
      have := h9 rfl
      omega
  unfold shG
  rw [if_neg (by omega)]
  show some (GV.i .u64 (IntKind.u64.wrap ((b : Int) * 2 ^ (min ((7 * i : Nat) : Int).toNat 64)))) = _
  rw [e, e2, ← Int.natCast_mul, wrapu64 (by omega) (by omega)]
theorem orI (a c i : Nat) (ha : a < 2 ^ i) (h : a + c * 2 ^ i < 18446744073709551616) : intG .or .u64 (a : Int) ((c * 2 ^ i : Nat) : Int) = some (.i .u64 ((a + c * 2 ^ i : Nat) : Int)) := by
  have h1 : ((BitVec.ofInt 64 (a : Int) ||| BitVec.ofInt 64 ((c * 2 ^ i : Nat) : Int)).toNat : Nat) = a + c * 2 ^ i := by
    rw [BitVec.toNat_or, BitVec.toNat_ofInt, BitVec.toNat_ofInt]
    generalize hC : c * 2 ^ i = C at *
    have e1 : ((a : Int) % ((2 ^ 64 : Nat) : Int)).toNat = a := by omega
    have e2 : ((C : Int) % ((2 ^ 64 : Nat) : Int)).toNat = C := by omega
    rw [e1, e2, ← hC, Nat.or_comm, Nat.mul_comm, Nat.add_comm]
    exact (Nat.two_pow_add_eq_or_of_lt ha c).symm
  show some (GV.i .u64 (IntKind.u64.wrap (((BitVec.ofInt 64 (a : Int) ||| BitVec.ofInt 64 ((c * 2 ^ i : Nat) : Int)).toNat : Nat) : Int))) = _
  rw [h1, wrapu64 (by omega) (by omega)]
theorem p128 (i : Nat) : 128 ^ i = 2 ^ (7 * i) := by rw [Nat.pow_mul]
/-- Some number, whichever. -/
theorem shl_some (a b : Int) (hb : 0 ≤ b) : ∃ r, shG .shl .u64 a b = some (.i .u64 r) := by
  unfold shG
  rw [if_neg (by omega)]
  exact ⟨_, rfl⟩
theorem or_some (a b : Int) : ∃ r, intG .or .u64 a b = some (.i .u64 r) := ⟨_, rfl⟩
def getOut (s : List UInt8) (acc : Int) (i : Nat) : List GV := match vlen (10 - i) (s.drop i) with
  | none => [.i .i64 1, .s s]
  | some k => if vbad (i + k) (s.getD (i + k - 1) 0).toNat ≠ 0 then [.i .i64 0, .i .u64 0, .i .i64 0, .i .i64 (vbad (i + k) (s.getD (i + k - 1) 0).toNat)]
    else [.i .i64 0, .i .u64 (acc + ((128 ^ i * vval ((s.drop i).take k) : Nat) : Int)), .i .i64 ((i + k : Nat) : Int), .i .i64 0]
theorem getLoop (s : List UInt8) (hs : s.length ≤ 140737488351232) : ∀ (m i : Nat) (acc : Int), i + m = min s.length 10 → (i ≤ 9 → 0 ≤ acc ∧ acc < ((128 ^ i : Nat) : Int)) →
    TT.lim 18 [.s s, .i .u64 acc, .i .i64 ((min s.length 10 : Nat) : Int), .i .i64 i] = some (getOut s acc i)
  | 0, i, acc, hi, ha => by
    have h : ¬ ((i : Int) < ((min s.length 10 : Nat) : Int)) := by omega
    have hv : vlen (10 - i) (s.drop i) = none := by
      rcases Nat.lt_or_ge i 10 with h1 | h1
      · have : s.drop i = [] := List.drop_eq_nil_of_le (by omega)
        rw [this]
        obtain ⟨j, hj⟩ : ∃ j, 10 - i = j + 1 := ⟨10 - i - 1, by omega⟩
        rw [hj]; rfl
      · have : 10 - i = 0 := by omega
        rw [this]; unfold vlen; rfl
    unfold getOut
    rw [hv]
    generalize ((min s.length 10 : Nat) : Int) = M at *
    refine tree_lim rfl rfl ?_
    simp [h]
  | m + 1, i, acc, hi, ha => by
    have hlt : i < s.length := by omega
    have h9 : i ≤ 9 := by omega
    have h : ((i : Int) < ((min s.length 10 : Nat) : Int)) := by omega
    obtain ⟨a1, a2⟩ := ha h9
    obtain ⟨n, rfl⟩ : ∃ n : Nat, acc = n := ⟨acc.toNat, by omega⟩
    have hb := (s[i]).toNat_lt
    have k7 := and127_8 (s[i]).toNat (by omega)
    have w8 := wrapu64 (n := (((s[i]).toNat % 128 : Nat) : Int)) (by omega) (by omega)
    have wi := wrap64 (n := 7 * (i : Int)) (by omega) (by omega)
    have wj := wrap64 (n := (i : Int) + 1) (by omega) (by omega)
    have hd : s.drop i = s[i] :: s.drop (i + 1) := List.drop_eq_getElem_cons hlt
    obtain ⟨j, hj⟩ : ∃ j, 10 - i = j + 1 := ⟨10 - i - 1, by omega⟩
    have hj' : 10 - (i + 1) = j := by omega
    have e7 : (7 * (i : Int)) = ((7 * i : Nat) : Int) := by omega
    have hgd : s.getD i 0 = s[i] := by simp [List.getD, hlt]
    by_cases hc : 128 ≤ (s[i]).toNat
    · -- another one follows
      have hc' : ((128 : Int) ≤ ((s[i]).toNat : Int)) := by omega
      have step : ∃ V : Int, (i + 1 ≤ 9 → 0 ≤ V ∧ V < ((128 ^ (i + 1) : Nat) : Int) ∧ V = n + (((s[i]).toNat % 128 * 128 ^ i : Nat) : Int)) ∧ (∃ S, shG .shl .u64 ((((s[i]).toNat % 128 : Nat)) : Int) (7 * (i : Int)) = some (.i .u64 S) ∧ intG .or .u64 (n : Int) S = some (.i .u64 V)) := by
        rcases Nat.lt_or_ge i 9 with h1 | h1
        · have k1 := shl7 ((s[i]).toNat % 128) i (by omega) (by omega) (by omega)
          have hp : (s[i]).toNat % 128 * 128 ^ i ≤ 127 * 128 ^ i := Nat.mul_le_mul_right _ (by omega)
          have hpp : 128 ^ (i + 1) = 128 * 128 ^ i := by rw [Nat.pow_succ, Nat.mul_comm]
          have hq : (128 : Nat) ^ i ≤ 128 ^ 8 := Nat.pow_le_pow_right (by omega) (by omega)
          have k2 := orI n ((s[i]).toNat % 128) (7 * i) (by rw [← p128]; omega) (by rw [← p128]; omega)
          rw [← p128] at k2
          refine ⟨_, fun _ => ⟨by omega, ?_, rfl⟩, _, by rw [e7]; exact k1, by rw [k2]; simp⟩
          rw [hpp]; omega
        · obtain ⟨S, hS⟩ := shl_some ((((s[i]).toNat % 128 : Nat)) : Int) (7 * (i : Int)) (by omega)
          obtain ⟨V, hV⟩ := or_some (n : Int) S
          exact ⟨V, fun h => by omega, S, hS, hV⟩
      obtain ⟨V, hV, S, hS, hO⟩ := step
      have ih : TT.lim 18 [.s s, .i .u64 V, .i .i64 ((min s.length 10 : Nat) : Int), .i .i64 ((i : Int) + 1)] = _ := getLoop s hs m (i + 1) V (by omega) (fun h => ⟨(hV h).1, (hV h).2.1⟩)
      have hout : getOut s n i = getOut s V (i + 1) := by
        unfold getOut
        rw [hd, hj, hj']
        have hv : vlen (j + 1) (s[i] :: s.drop (i + 1)) = (vlen j (s.drop (i + 1))).map (· + 1) := by
          show (if (s[i]).toNat < 128 then _ else _) = _
          rw [if_neg (by omega)]
        rw [hv]
        cases hx : vlen j (s.drop (i + 1)) with
        | none => rfl
        | some k =>
          obtain ⟨q1, q2, _, _⟩ := vlen_some hx
          have hV' := hV (by omega)
          have e1 : i + (k + 1) = i + 1 + k := by omega
          simp only [Option.map_some, e1]
          split
          · rfl
          · have e2 : (n : Int) + ((128 ^ i * vval ((s[i] :: s.drop (i + 1)).take (k + 1)) : Nat) : Int) = V + ((128 ^ (i + 1) * vval ((s.drop (i + 1)).take k) : Nat) : Int) := by
              rw [hV'.2.2, List.take_succ_cons]
              have : 128 ^ i * vval (s[i] :: (s.drop (i + 1)).take k) = (s[i]).toNat % 128 * 128 ^ i + 128 ^ (i + 1) * vval ((s.drop (i + 1)).take k) := by
                show 128 ^ i * ((s[i]).toNat % 128 + 128 * vval _) = _
                rw [Nat.mul_add, Nat.pow_succ, Nat.mul_assoc, Nat.mul_comm (128 ^ i) ((s[i]).toNat % 128)]
              rw [this]; omega
            rw [e2]
      rw [hout]
      generalize getOut s V (i + 1) = O at *
      generalize ((min s.length 10 : Nat) : Int) = M at *
      have em : (((s[i]).toNat % 128 : Nat) : Int) = ((s[i]).toNat : Int) % 128 := by omega
      rw [em] at k7 w8 hS
      refine tree_lim rfl rfl ?_
      simp [h, hlt, hc', k7, w8, wi, wj, hS, hO, ih]
    · -- the last one
      have hc' : ¬ ((128 : Int) ≤ ((s[i]).toNat : Int)) := by omega
      have hv : vlen (j + 1) (s[i] :: s.drop (i + 1)) = some 1 := by
        show (if (s[i]).toNat < 128 then _ else _) = _
        rw [if_pos (by omega)]
      have hout : getOut s n i = if vbad (i + 1) (s[i]).toNat ≠ 0 then [.i .i64 0, .i .u64 0, .i .i64 0, .i .i64 (vbad (i + 1) (s[i]).toNat)] else [.i .i64 0, .i .u64 ((n + (s[i]).toNat * 128 ^ i : Nat) : Int), .i .i64 ((i : Int) + 1), .i .i64 0] := by
        unfold getOut
        rw [hd, hj, hv]
        have e1 : i + 1 - 1 = i := by omega
        have e2 : 128 ^ i * vval ((s[i] :: s.drop (i + 1)).take 1) = (s[i]).toNat * 128 ^ i := by
          simp only [List.take_succ_cons, List.take_zero, vval]
          rw [Nat.mod_eq_of_lt (by omega), Nat.mul_comm]; simp
        simp only [e1, hgd, e2]
        congr 1
      rw [hout]
      have step : ∃ S V, shG .shl .u64 ((((s[i]).toNat % 128 : Nat)) : Int) (7 * (i : Int)) = some (.i .u64 S) ∧ intG .or .u64 (n : Int) S = some (.i .u64 V) ∧ (vbad (i + 1) (s[i]).toNat = 0 → V = ((n + (s[i]).toNat * 128 ^ i : Nat) : Int)) := by
        by_cases hbad : i = 9 ∧ 1 < (s[i]).toNat
        · obtain ⟨S, hS⟩ := shl_some ((((s[i]).toNat % 128 : Nat)) : Int) (7 * (i : Int)) (by omega)
          obtain ⟨V, hV⟩ := or_some (n : Int) S
          refine ⟨S, V, hS, hV, fun h => ?_⟩
          unfold vbad at h
          rw [if_pos (by omega)] at h
          cases h
        · have k1 := shl7 ((s[i]).toNat % 128) i (by omega) (by omega) (by omega)
          have em : (s[i]).toNat % 128 = (s[i]).toNat := Nat.mod_eq_of_lt (by omega)
          rw [em] at k1
          have hp : (s[i]).toNat * 128 ^ i ≤ 127 * 128 ^ i := Nat.mul_le_mul_right _ (by omega)
          have hb64 : n + (s[i]).toNat * 128 ^ i < 18446744073709551616 := by
            rcases Nat.lt_or_ge i 9 with h1 | h1
            · have hq : (128 : Nat) ^ i ≤ 128 ^ 8 := Nat.pow_le_pow_right (by omega) (by omega)
              omega
            · have hi9 : i = 9 := by omega
              have h1 : (s[i]).toNat ≤ 1 := by omega
              have hq : (128 : Nat) ^ i = 128 ^ 9 := by rw [hi9]
              have hp2 : (s[i]).toNat * 128 ^ i ≤ 1 * 128 ^ i := Nat.mul_le_mul_right _ h1
              omega
          have k2 := orI n (s[i]).toNat (7 * i) (by rw [← p128]; omega) (by rw [← p128]; omega)
          rw [← p128] at k2
          exact ⟨_, _, by rw [e7, em]; exact k1, k2, fun _ => rfl⟩
      obtain ⟨S, V, hS, hO, hV⟩ := step
      generalize ((n + (s[i]).toNat * 128 ^ i : Nat) : Int) = R at *
      generalize ((min s.length 10 : Nat) : Int) = M at *
      have bd : vbad (i + 1) (s[i]).toNat = if (i : Int) = 9 ∧ (1 : Int) < ((s[i]).toNat : Int) then 3 else if (0 : Int) < (i : Int) ∧ ((s[i]).toNat : Int) = 0 then 2 else 0 := by
        unfold vbad
        congr 1
        · apply propext; omega
        · congr 1
          apply propext; omega
      rw [bd] at hV ⊢
      have em : (((s[i]).toNat % 128 : Nat) : Int) = ((s[i]).toNat : Int) % 128 := by omega
      rw [em] at k7 w8 hS
      refine tree_lim rfl rfl ?_
      rcases (Classical.em ((i : Int) = 9)).imp eq_true eq_false with q1 | q1 <;> rcases (Classical.em ((1 : Int) < ((s[i]).toNat : Int))).imp eq_true eq_false with q2 | q2 <;>
        rcases (Classical.em ((0 : Int) < (i : Int))).imp eq_true eq_false with q3 | q3 <;> rcases (Classical.em (((s[i]).toNat : Int) = 0)).imp eq_true eq_false with q4 | q4
      all_goals
        have q3n : (0 < i) = ((0 : Int) < (i : Int)) := propext (by omega)
        have q4n : ((s[i]).toNat = 0) = (((s[i]).toNat : Int) = 0) := propext (by omega)
        rw [q3] at q3n
        rw [q4] at q4n
        simp only [q1, q2, q3, q4, and_self, and_true, and_false, false_and, true_and, if_true, if_false] at hV ⊢
        first
        | (have hV := hV trivial; subst hV)
        | skip
        simp [h, hlt, hc', k7, w8, wi, wj, hS, hO, q1, q2, q3, q4, q3n, q4n]
theorem getP (s : List UInt8) (hs : s.length ≤ 140737488351232) : TT.lim 17 [.s s] = some [.i .u64 ((vget s).1 : Nat), .i .i64 ((vget s).2.1 : Nat), .i .i64 (vget s).2.2] := by
  have k : TT.lim 18 [.s s, .i .u64 0, .i .i64 ((min s.length 10 : Nat) : Int), .i .i64 0] = _ := getLoop s hs (min s.length 10) 0 0 (by omega) (by simp)
  have hm : (if (10 : Int) < (s.length : Int) then (10 : Int) else (s.length : Int)) = ((min s.length 10 : Nat) : Int) := by split <;> omega
  unfold getOut at k
  rw [List.drop_zero, Nat.sub_zero] at k
  unfold vget
  generalize ((min s.length 10 : Nat) : Int) = M at *
  refine fn_lim rfl rfl ?_ rfl
  cases hv : vlen 10 s with
  | none =>
    rw [hv] at k
    by_cases h10 : 10 ≤ s.length
    · have h1 : (10 : Int) ≤ s.length := by omega
      simp [hm, k, h10, h1]
    · have h1 : ¬ (10 : Int) ≤ s.length := by omega
      simp [hm, k, h10, h1]
  | some j =>
    rw [hv] at k
    simp only [Nat.zero_add, Nat.pow_zero, Nat.one_mul, Int.zero_add] at k
    by_cases hb : vbad j (s.getD (j - 1) 0).toNat = 0
    · simp only [hb, ne_eq, not_true_eq_false, if_false] at k ⊢
      simp [hm, k]
    · simp only [hb, ne_eq, not_false_eq_true, if_true] at k ⊢
      simp [hm, k]
theorem u8nat {n : Nat} (h : n < 256) : (UInt8.ofNat n).toNat = n := UInt8.toNat_ofNat_of_lt' h
def vtop (n : Nat) : Nat := if n < 128 then n else vtop (n / 128)
termination_by n
theorem vtop_lt {n : Nat} (h : n < 128) : vtop n = n := by rw [vtop, if_pos h]
theorem vtop_ge {n : Nat} (h : ¬ n < 128) : vtop n = vtop (n / 128) := by rw [vtop, if_neg h]
theorem vsize_lt {n : Nat} (h : n < 128) : vsize n = 1 := by unfold vsize; rw [vput_lt h]; rfl
theorem vtop_facts : ∀ n : Nat, vtop n < 128 ∧ (0 < n → 0 < vtop n) ∧ vtop n * 128 ^ (vsize n - 1) ≤ n := by
  intro n
  induction n using Nat.strongRecOn with
  | _ n ih =>
    by_cases h : n < 128
    · rw [vtop_lt h, vsize_lt h]; simp; omega
    · obtain ⟨h1, h2, h3⟩ := ih (n / 128) (by omega)
      rw [vtop_ge h, vsize_ge h]
      refine ⟨h1, fun _ => h2 (by omega), ?_⟩
      have hp := vsize_pos (n / 128)
      obtain ⟨j, hj⟩ : ∃ j, vsize (n / 128) = j + 1 := ⟨vsize (n / 128) - 1, by omega⟩
      rw [hj] at h3 ⊢
      simp only [Nat.add_sub_cancel] at h3 ⊢
      have : vtop (n / 128) * 128 ^ (j + 1) = vtop (n / 128) * 128 ^ j * 128 := by rw [Nat.pow_succ, Nat.mul_assoc]
      rw [this]; omega
theorem vput_get : ∀ (n : Nat) (x : List UInt8), (vput n ++ x).getD (vsize n - 1) 0 = UInt8.ofNat (vtop n) := by
  intro n
  induction n using Nat.strongRecOn with
  | _ n ih =>
    intro x
    by_cases h : n < 128
    · rw [vtop_lt h, vsize_lt h, vput_lt h]; rfl
    · have hp := vsize_pos (n / 128)
      obtain ⟨j, hj⟩ : ∃ j, vsize (n / 128) = j + 1 := ⟨vsize (n / 128) - 1, by omega⟩
      have := ih (n / 128) (by omega) x
      rw [vtop_ge h, vsize_ge h, vput_ge h, ← this, hj]
      simp
theorem vlen_put : ∀ (n k : Nat) (x : List UInt8), vsize n ≤ k → vlen k (vput n ++ x) = some (vsize n) := by
  intro n
  induction n using Nat.strongRecOn with
  | _ n ih =>
    intro k x hk
    have hp := vsize_pos n
    obtain ⟨j, rfl⟩ : ∃ j, k = j + 1 := ⟨k - 1, by omega⟩
    by_cases h : n < 128
    · rw [vsize_lt h, vput_lt h]
      show (if (UInt8.ofNat n).toNat < 128 then _ else _) = _
      rw [if_pos (by rw [u8nat (by omega)]; exact h)]
    · rw [vsize_ge h] at hk ⊢
      rw [vput_ge h]
      show (if (UInt8.ofNat (n % 128 + 128)).toNat < 128 then _ else (vlen j (vput (n / 128) ++ x)).map (· + 1)) = _
      rw [if_neg (by rw [u8nat (by omega)]; omega), ih (n / 128) (by omega) j x (by omega)]
      rfl
theorem vval_put : ∀ n : Nat, vval (vput n) = n := by
  intro n
  induction n using Nat.strongRecOn with
  | _ n ih =>
    by_cases h : n < 128
    · rw [vput_lt h]
      simp only [vval]
      rw [u8nat (by omega)]; omega
    · rw [vput_ge h]
      simp only [vval]
      rw [ih (n / 128) (by omega), u8nat (by omega)]; omega
theorem vget_put (n : Nat) (x : List UInt8) (hn : n < 18446744073709551616) : vget (vput n ++ x) = (n, (vput n).length, 0) := by
  have h1 := vlen_put n 10 x (vsize64 hn)
  obtain ⟨f1, f2, f3⟩ := vtop_facts n
  have hg := vput_get n x
  have hb : vbad (vsize n) (UInt8.ofNat (vtop n)).toNat = 0 := by
    rw [u8nat (by omega)]
    unfold vbad
    rw [if_neg, if_neg]
    · rintro ⟨h2, h3⟩
      by_cases h : n < 128
      · rw [vsize_lt h] at h2; omega
      · have := f2 (by omega); omega
    · rintro ⟨h2, h3⟩
      rw [h2] at f3
      have : 2 * 128 ^ 9 ≤ vtop n * 128 ^ 9 := Nat.mul_le_mul_right _ h3
      simp only [show 10 - 1 = 9 from rfl] at f3
      omega
  unfold vget
  rw [h1]
  simp only [hg, hb, ne_eq, not_true_eq_false, if_false]
  have : (vput n ++ x).take (vsize n) = vput n := by
    unfold vsize; simp
  rw [this, vval_put]
  rfl
theorem vval_snoc (a : List UInt8) (b : UInt8) : vval (a ++ [b]) = vval a + 128 ^ a.length * (b.toNat % 128) := by
  induction a with
  | nil => simp [vval]
  | cons c a ih =>
    simp only [List.cons_append, vval, ih, List.length_cons, Nat.pow_succ, Nat.mul_add, Nat.add_assoc]
    rw [Nat.mul_comm (128 ^ a.length) 128, Nat.mul_assoc]
/-- Bytes that are a number's writing. -/
theorem put_vval : ∀ (j k : Nat) (s : List UInt8), vlen j s = some k → (1 < k → (s.getD (k - 1) 0) ≠ 0) → vput (vval (s.take k)) = s.take k ∧ (1 < k ∨ s.getD (k - 1) 0 ≠ 0 → vval (s.take k) ≠ 0)
  | 0, k, s, h, _ => by simp [vlen] at h
  | j + 1, k, [], h, _ => by simp [vlen] at h
  | j + 1, k, b :: r, h, hz => by
    unfold vlen at h
    split at h
    · next hb =>
      cases h
      simp only [List.take_succ_cons, List.take_zero, vval, Nat.mul_zero, Nat.add_zero]
      rw [Nat.mod_eq_of_lt hb]
      refine ⟨by rw [vput_lt hb]; simp, fun hh => ?_⟩
      rcases hh with hh | hh
      · omega
      · intro e
        apply hh
        simp only [Nat.sub_self, List.getD_cons_zero]
        exact UInt8.toNat_inj.1 (by simpa using e)
    · next hb =>
      obtain ⟨i, hi, rfl⟩ := Option.map_eq_some_iff.1 h
      obtain ⟨q1, q2, q3, q4⟩ := vlen_some hi
      obtain ⟨l, rfl⟩ : ∃ l, i = l + 1 := ⟨i - 1, by omega⟩
      have hz' : r.getD l 0 ≠ 0 := by have := hz (by omega); simpa using this
      obtain ⟨e1, e2⟩ := put_vval j (l + 1) r hi (fun _ => by simpa using hz')
      have e2 := e2 (.inr (by simpa using hz'))
      have hb8 := b.toNat_lt
      rw [List.take_succ_cons]
      simp only [vval]
      refine ⟨?_, fun _ => by omega⟩
      rw [vput_ge (by omega)]
      have a1 : (b.toNat % 128 + 128 * vval (r.take (l + 1))) % 128 + 128 = b.toNat := by omega
      have a2 : (b.toNat % 128 + 128 * vval (r.take (l + 1))) / 128 = vval (r.take (l + 1)) := by omega
      rw [a1, a2, e1]; simp
structure VOk (s : List UInt8) (n k : Nat) : Prop where
  pos : 1 ≤ k
  ten : k ≤ 10
  len : k ≤ s.length
  lt : n < 18446744073709551616
  put : vput n = s.take k
theorem vget_ok {s : List UInt8} (h : (vget s).2.2 = 0) : VOk s (vget s).1 (vget s).2.1 := by
  unfold vget at h ⊢
  cases hv : vlen 10 s with
  | none =>
    rw [hv] at h
    simp only at h
    split at h <;> cases h
  | some k =>
    rw [hv] at h
    simp only at h ⊢
    obtain ⟨v1, v2, v3, v4⟩ := vlen_some hv
    by_cases hb : vbad k (s.getD (k - 1) 0).toNat = 0
    · simp only [hb, ne_eq, not_true_eq_false, if_false]
      have hz : 1 < k → s.getD (k - 1) 0 ≠ 0 := by
        intro h1 h2
        unfold vbad at hb
        rw [h2] at hb
        split at hb
        · cases hb
        · rw [if_pos ⟨h1, rfl⟩] at hb; cases hb
      refine ⟨v1, v2, v3, ?_, (put_vval 10 k s hv hz).1⟩
      have e : s.take k = s.take (k - 1) ++ [s.getD (k - 1) 0] := by
        obtain ⟨j, rfl⟩ : ∃ j, k = j + 1 := ⟨k - 1, by omega⟩
        have : j < s.length := by omega
        simp [List.getD, this]
      have h2 := vval_lt (s.take (k - 1))
      rw [e, vval_snoc, List.length_take, Nat.min_eq_left (by omega)]
      rw [List.length_take, Nat.min_eq_left (by omega)] at h2
      rcases Nat.lt_or_ge k 10 with h3 | h3
      · have hq : (128 : Nat) ^ (k - 1) ≤ 128 ^ 8 := Nat.pow_le_pow_right (by omega) (by omega)
        have hq2 : 128 ^ (k - 1) * ((s.getD (k - 1) 0).toNat % 128) ≤ 128 ^ (k - 1) * 127 := Nat.mul_le_mul_left _ (by omega)
        omega
      · have hK10 : k = 10 := by omega
        have hb1 : (s.getD (k - 1) 0).toNat ≤ 1 := by
          unfold vbad at hb
          split at hb
          · cases hb
          · next h => omega
        have hq : (128 : Nat) ^ (k - 1) = 128 ^ 9 := by rw [hK10]
        have hq2 : 128 ^ (k - 1) * ((s.getD (k - 1) 0).toNat % 128) ≤ 128 ^ (k - 1) * 1 := Nat.mul_le_mul_left _ (by omega)
        omega
    · simp only [hb, ne_eq, not_false_eq_true, if_true] at h
theorem vget_err {s : List UInt8} (h : (vget s).2.2 ≠ 0) : (vget s).1 = 0 ∧ (vget s).2.1 = 0 := by
  unfold vget at h ⊢
  cases hv : vlen 10 s with
  | none => exact ⟨rfl, rfl⟩
  | some k =>
    rw [hv] at h
    simp only at h ⊢
    by_cases hb : vbad k (s.getD (k - 1) 0).toNat = 0
    · simp only [hb, ne_eq, not_true_eq_false, if_false] at h
    · simp only [hb, ne_eq, not_false_eq_true, if_true]
      exact ⟨trivial, trivial⟩
/-- Taken of a cursor. -/
theorem vnextP (t : List UInt8) (at' : Nat) (h : at' ≤ t.length) (ht : t.length ≤ 140737488351232) :
    TT.lim 16 [.s t, .i .i64 at'] = some [.i .i64 0, .i .u64 ((vget (t.drop at')).1 : Nat), .i .i64 (vget (t.drop at')).2.2, .s t, .i .i64 ((at' + (vget (t.drop at')).2.1 : Nat) : Int)] := by
  have k := getP (t.drop at') (by rw [List.length_drop]; omega)
  have hd : (t.take t.length).drop at' = t.drop at' := by rw [List.take_length]
  have h1 : (at' : Int) ≤ t.length := by omega
  refine tree_lim rfl rfl ?_
  by_cases he : (vget (t.drop at')).2.2 = 0
  · have hv := vget_ok he
    have hl := hv.len
    have h10 := hv.ten
    rw [List.length_drop] at hl
    generalize (vget (t.drop at')).1 = n at *
    generalize (vget (t.drop at')).2.1 = j at *
    generalize (vget (t.drop at')).2.2 = e at *
    have w1 := wrapu64 (n := (j : Int)) (by omega) (by omega)
    have w2 := wrap64 (n := (t.length : Int) - (at' : Int)) (by omega) (by omega)
    have w3 := wrapu64 (n := (t.length : Int) - (at' : Int)) (by omega) (by omega)
    have w4 := wrap64 (n := (j : Int)) (by omega) (by omega)
    have w5 := wrap64 (n := (at' : Int) + (j : Int)) (by omega) (by omega)
    have c1 : ¬ ((t.length : Int) - (at' : Int) < (j : Int)) := by omega
    have c2 : (at' : Int) ≤ (at' : Int) + (j : Int) ∧ (at' : Int) + (j : Int) ≤ t.length := by omega
    subst he
    simp [hd, h1, k, w1, w2, w3, w4, w5, c1, c2]
  · obtain ⟨e1, e2⟩ := vget_err he
    rw [e1, e2] at k ⊢
    generalize (vget (t.drop at')).2.2 = e at *
    simp [hd, h1, k, he]
def pfail (e : Int) : List UInt8 × Nat × Int := ([], 0, e)
/-- The text that stands next, how many bytes it took, and the code. -/
def pnext (s a0 : List UInt8) (first : Bool) : List UInt8 × Nat × Int :=
  let a := if first = true then [] else a0
  let v := vget s
  if v.2.2 ≠ 0 then pfail v.2.2 else
  if a.length < v.1 then pfail 23 else
  let v2 := vget (s.drop v.2.1)
  if v2.2.2 ≠ 0 then pfail v2.2.2 else
  if s.length - (v.2.1 + v2.2.1) < v2.1 then pfail 1 else
  let t := a.take v.1 ++ (s.drop (v.2.1 + v2.2.1)).take v2.1
  if first = false ∧ Op.bytesLess a t = false then pfail 7 else
  if v.1 < common a t then pfail 23 else (t, v.2.1 + v2.2.1 + v2.1, 0)
theorem le_of_less (a t : List UInt8) : (Op.bytesLess t a || t == a) = !(Op.bytesLess a t) := by
  rw [bytesLess_lt, bytesLess_lt, Bool.eq_iff_iff]
  simp only [Bool.or_eq_true, decide_eq_true_iff, beq_iff_eq, Bool.not_eq_true', decide_eq_false_iff_not]
  constructor
  · rintro (h | h) h2
    · exact List.lt_irrefl _ (List.lt_trans h h2)
    · subst h; exact List.lt_irrefl _ h2
  · intro h
    by_cases h1 : t < a
    · exact .inl h1
    · exact .inr (List.le_antisymm (List.not_lt.1 h) (List.not_lt.1 h1))
theorem common_ge : ∀ (k : Nat) (a x : List UInt8), k ≤ a.length → k ≤ common a (a.take k ++ x)
  | 0, a, x, h => by omega
  | k + 1, [], x, h => by simp at h
  | k + 1, b :: a, x, h => by
    rw [List.take_succ_cons, List.cons_append]
    unfold common
    rw [if_pos rfl]
    have := common_ge k a x (by simpa using h)
    omega
theorem pnextP (t a : List UInt8) (first : Bool) (at' : Nat) (h : at' ≤ t.length) (ht : t.length ≤ 100000000) (ha : a.length ≤ 100000000) :
    ∃ at2 : Nat, TT.lim 15 [.s t, .s a, .b first, .i .i64 at'] = some [.i .i64 0, .s (pnext (t.drop at') a first).1, .i .i64 (pnext (t.drop at') a first).2.2, .s t, .i .i64 at2] ∧
      ((pnext (t.drop at') a first).2.2 = 0 → at2 = at' + (pnext (t.drop at') a first).2.1) := by
  have k1 := vnextP t at' h (by omega)
  by_cases he : (vget (t.drop at')).2.2 = 0
  rotate_left
  · obtain ⟨e1, e2⟩ := vget_err he
    have hp : pnext (t.drop at') a first = pfail (vget (t.drop at')).2.2 := by unfold pnext; simp only; rw [if_pos he]
    rw [e1, e2] at k1
    rw [hp]
    clear e1 e2 hp
    generalize (vget (t.drop at')).2.2 = e at *
    refine ⟨at', tree_lim rfl rfl ?_, fun h => absurd h he⟩
    cases first <;> simp [k1, he, pfail]
  have hv := vget_ok he
  have hl := hv.len
  have h64 := hv.lt
  have h10 := hv.ten
  rw [List.length_drop] at hl
  have hpn : ∀ a' : List UInt8, a' = (if first = true then [] else a) → pnext (t.drop at') a first = (if a'.length < (vget (t.drop at')).1 then pfail 23 else
      if (vget (t.drop (at' + (vget (t.drop at')).2.1))).2.2 ≠ 0 then pfail (vget (t.drop (at' + (vget (t.drop at')).2.1))).2.2 else
      if (t.length - at') - ((vget (t.drop at')).2.1 + (vget (t.drop (at' + (vget (t.drop at')).2.1))).2.1) < (vget (t.drop (at' + (vget (t.drop at')).2.1))).1 then pfail 1 else
      if first = false ∧ Op.bytesLess a' (a'.take (vget (t.drop at')).1 ++ (t.drop (at' + ((vget (t.drop at')).2.1 + (vget (t.drop (at' + (vget (t.drop at')).2.1))).2.1))).take (vget (t.drop (at' + (vget (t.drop at')).2.1))).1) = false then pfail 7 else
      if (vget (t.drop at')).1 < common a' (a'.take (vget (t.drop at')).1 ++ (t.drop (at' + ((vget (t.drop at')).2.1 + (vget (t.drop (at' + (vget (t.drop at')).2.1))).2.1))).take (vget (t.drop (at' + (vget (t.drop at')).2.1))).1) then pfail 23 else
      (a'.take (vget (t.drop at')).1 ++ (t.drop (at' + ((vget (t.drop at')).2.1 + (vget (t.drop (at' + (vget (t.drop at')).2.1))).2.1))).take (vget (t.drop (at' + (vget (t.drop at')).2.1))).1, (vget (t.drop at')).2.1 + (vget (t.drop (at' + (vget (t.drop at')).2.1))).2.1 + (vget (t.drop (at' + (vget (t.drop at')).2.1))).1, 0)) := by
    intro a' ha'
    unfold pnext
    simp only [List.drop_drop, List.length_drop, ← ha', he, ne_eq, not_true_eq_false, if_false]
  rw [he] at k1
  have k2 := vnextP t (at' + (vget (t.drop at')).2.1) (by omega) (by omega)
  have hv2 := fun h => vget_ok (s := t.drop (at' + (vget (t.drop at')).2.1)) h
  have hv3 := fun h => vget_err (s := t.drop (at' + (vget (t.drop at')).2.1)) h
  generalize hv0 : vget (t.drop at') = v at *
  obtain ⟨n, i, e⟩ := v
  simp only at *
  generalize hv1 : vget (t.drop (at' + i)) = v2 at *
  obtain ⟨m, j, e2⟩ := v2
  simp only at *
  clear hv0 hv1 hv
  subst he
  simp only [Int.natCast_add] at k1 k2
  -- whichever is ahead
  cases first with
  | true =>
    have hp := hpn [] rfl
    rw [hp]
    clear hp hpn
    by_cases c1 : 0 < n
    · have c1' : (0 : Int) < n := by omega
      rw [if_pos (by simpa using c1)]
      refine ⟨at' + i, tree_lim rfl rfl ?_, fun h => by cases h⟩
      simp [k1, c1, c1', pfail]
    have c1' : ¬ (0 : Int) < n := by omega
    rw [if_neg (by simpa using c1)]
    by_cases c2 : e2 = 0
    rotate_left
    · obtain ⟨q1, q2⟩ := hv3 c2
      subst q1; subst q2
      rw [if_pos c2]
      refine ⟨at' + i, tree_lim rfl rfl ?_, fun h => absurd h c2⟩
      simp [k1, k2, c1, c1', c2, pfail]
    subst c2
    obtain ⟨q1, q2, q3, q4, _⟩ := hv2 rfl
    rw [List.length_drop] at q3
    rw [if_neg (by simp)]
    have w2 := wrap64 (n := (t.length : Int) - ((at' : Int) + (i : Int) + (j : Int))) (by omega) (by omega)
    have w3 := wrapu64 (n := (t.length : Int) - ((at' : Int) + (i : Int) + (j : Int))) (by omega) (by omega)
    by_cases c3 : t.length - at' - (i + j) < m
    · have c3' : (t.length : Int) - ((at' : Int) + (i : Int) + (j : Int)) < (m : Int) := by omega
      rw [if_pos c3]
      refine ⟨at' + i + j, tree_lim rfl rfl ?_, fun h => by cases h⟩
      simp [k1, k2, c1, c1', w2, w3, c3', pfail]
    have c3' : ¬ (t.length : Int) - ((at' : Int) + (i : Int) + (j : Int)) < (m : Int) := by omega
    rw [if_neg c3, if_neg (by simp)]
    have n0 : n = 0 := by omega
    subst n0
    have hc : common [] ([] ++ (t.drop (at' + (i + j))).take m) = 0 := common_nil _
    have w4 := wrap64 (n := (m : Int)) (by omega) (by omega)
    have w5 := wrap64 (n := (at' : Int) + (i : Int) + (j : Int) + (m : Int)) (by omega) (by omega)
    have w0 := wrap64 (n := (0 : Int)) (by omega) (by omega)
    have ts : ((t.take (at' + i + j + m)).drop (at' + i + j)) = (t.drop (at' + (i + j))).take m := by
      rw [← Nat.add_assoc, List.drop_take]
      congr 1; omega
    have kc := comP [] ((t.drop (at' + (i + j))).take m) (by simp) (by simp; omega)
    rw [common_nil] at kc
    have c4 : (at' : Int) + (i : Int) + (j : Int) ≤ (at' : Int) + (i : Int) + (j : Int) + (m : Int) ∧ (at' : Int) + (i : Int) + (j : Int) + (m : Int) ≤ t.length := by omega
    have c5 : (0 : Int) ≤ (at' : Int) + (i : Int) + (j : Int) := by omega
    have t1 : ((at' : Int) + (i : Int) + (j : Int) + (m : Int)).toNat = at' + i + j + m := by omega
    have t2 : ((at' : Int) + (i : Int) + (j : Int)).toNat = at' + i + j := by omega
    rw [List.take_nil, if_neg (by rw [hc]; omega)]
    have hl0 : (((t.drop (at' + (i + j))).take m).length : Int) ≤ 9223372036854775807 := by
      have : ((t.drop (at' + (i + j))).take m).length ≤ t.length := by rw [List.length_take, List.length_drop]; omega
      omega
    refine ⟨at' + i + j + m, tree_lim rfl rfl ?_, fun _ => by simp only; omega⟩
    rw [List.nil_append]
    generalize (t.drop (at' + (i + j))).take m = X at *
    simp [k1, k2, w0, w2, w3, w4, w5, c3', c4, c5, t1, t2, ts, kc, hl0]
  | false =>
    have hp := hpn a rfl
    rw [hp]
    clear hp hpn
    have wa := wrapu64 (n := (a.length : Int)) (by omega) (by omega)
    by_cases c1 : a.length < n
    · have c1' : (a.length : Int) < n := by omega
      rw [if_pos c1]
      refine ⟨at' + i, tree_lim rfl rfl ?_, fun h => by cases h⟩
      simp [k1, c1, c1', wa, pfail]
    have c1' : ¬ (a.length : Int) < n := by omega
    rw [if_neg c1]
    by_cases c2 : e2 = 0
    rotate_left
    · obtain ⟨q1, q2⟩ := hv3 c2
      subst q1; subst q2
      rw [if_pos c2]
      refine ⟨at' + i, tree_lim rfl rfl ?_, fun h => absurd h c2⟩
      simp [k1, k2, c1, c1', c2, wa, pfail]
    subst c2
    obtain ⟨q1, q2, q3, q4, _⟩ := hv2 rfl
    rw [List.length_drop] at q3
    rw [if_neg (by simp)]
    have w2 := wrap64 (n := (t.length : Int) - ((at' : Int) + (i : Int) + (j : Int))) (by omega) (by omega)
    have w3 := wrapu64 (n := (t.length : Int) - ((at' : Int) + (i : Int) + (j : Int))) (by omega) (by omega)
    by_cases c3 : t.length - at' - (i + j) < m
    · have c3' : (t.length : Int) - ((at' : Int) + (i : Int) + (j : Int)) < (m : Int) := by omega
      rw [if_pos c3]
      refine ⟨at' + i + j, tree_lim rfl rfl ?_, fun h => by cases h⟩
      simp [k1, k2, c1, c1', w2, w3, c3', wa, pfail]
    have c3' : ¬ (t.length : Int) - ((at' : Int) + (i : Int) + (j : Int)) < (m : Int) := by omega
    rw [if_neg c3]
    have w4 := wrap64 (n := (m : Int)) (by omega) (by omega)
    have w5 := wrap64 (n := (at' : Int) + (i : Int) + (j : Int) + (m : Int)) (by omega) (by omega)
    have wn := wrap64 (n := (n : Int)) (by omega) (by omega)
    have ts : ((t.take (at' + i + j + m)).drop (at' + i + j)) = (t.drop (at' + (i + j))).take m := by
      rw [← Nat.add_assoc, List.drop_take]
      congr 1; omega
    have hlx : ((t.drop (at' + (i + j))).take m).length ≤ t.length := by rw [List.length_take, List.length_drop]; omega
    have kc := comP a (a.take n ++ (t.drop (at' + (i + j))).take m) (by omega) (by rw [List.length_append, List.length_take]; omega)
    have c4 : (at' : Int) + (i : Int) + (j : Int) ≤ (at' : Int) + (i : Int) + (j : Int) + (m : Int) ∧ (at' : Int) + (i : Int) + (j : Int) + (m : Int) ≤ t.length := by omega
    have c5 : (0 : Int) ≤ (at' : Int) + (i : Int) + (j : Int) := by omega
    have c6 : (n : Int) ≤ a.length := by omega
    have t1 : ((at' : Int) + (i : Int) + (j : Int) + (m : Int)).toNat = at' + i + j + m := by omega
    have t2 : ((at' : Int) + (i : Int) + (j : Int)).toNat = at' + i + j := by omega
    have hlm : (min n a.length : Nat) = n := by omega
    have hl0 : (n : Int) + (((t.drop (at' + (i + j))).take m).length : Int) ≤ 9223372036854775807 := by omega
    have hle := le_of_less a (a.take n ++ (t.drop (at' + (i + j))).take m)
    generalize (t.drop (at' + (i + j))).take m = X at *
    by_cases c7 : Op.bytesLess a (a.take n ++ X) = false
    · rw [if_pos ⟨rfl, c7⟩]
      rw [c7] at hle
      refine ⟨at' + i + j + m, tree_lim rfl rfl ?_, fun h => by cases h⟩
      have hle' : (Op.bytesLess (a.take n ++ X) a = true ∨ a.take n ++ X = a) = True := eq_true (by simpa using hle)
      simp [k1, k2, wa, wn, w2, w3, w4, w5, c1', c3', c4, c5, c6, t1, t2, ts, hl0, hlm, hle', pfail]
    · rw [if_neg (fun h => c7 h.2)]
      have c7 : Op.bytesLess a (a.take n ++ X) = true := by simpa using c7
      rw [c7] at hle
      have hle' : (Op.bytesLess (a.take n ++ X) a = true ∨ a.take n ++ X = a) = False := eq_false (by simpa using hle)
      by_cases c8 : n < common a (a.take n ++ X)
      · have c8' : (n : Int) < (common a (a.take n ++ X) : Int) := by omega
        rw [if_pos c8]
        refine ⟨at' + i + j + m, tree_lim rfl rfl ?_, fun h => by cases h⟩
        simp [k1, k2, wa, wn, w2, w3, w4, w5, c1', c3', c4, c5, c6, t1, t2, ts, hl0, hlm, hle', kc, c8', pfail]
      · have c8' : ¬ (n : Int) < (common a (a.take n ++ X) : Int) := by omega
        rw [if_neg c8]
        refine ⟨at' + i + j + m, tree_lim rfl rfl ?_, fun _ => by simp only; omega⟩
        simp [k1, k2, wa, wn, w2, w3, w4, w5, c1', c3', c4, c5, c6, t1, t2, ts, hl0, hlm, hle', kc, c8']
theorem pnext_ok {s a : List UInt8} {first : Bool} (h : (pnext s a first).2.2 = 0) : 2 ≤ (pnext s a first).2.1 ∧ (pnext s a first).2.1 ≤ s.length ∧ (pnext s a first).1.length ≤ (if first = true then 0 else a.length) + (pnext s a first).2.1 := by
  have hA : (if first = true then 0 else a.length) = (if first = true then [] else a).length := by cases first <;> rfl
  rw [hA]
  clear hA
  unfold pnext at h ⊢
  simp only at h ⊢
  generalize (if first = true then [] else a) = a' at h ⊢
  split at h
  · next c => exact absurd h c
  next c0 =>
  rw [if_neg c0]
  split at h
  · cases h
  next c1 =>
  rw [if_neg c1]
  split at h
  · next c => exact absurd h c
  next c2 =>
  rw [if_neg c2]
  split at h
  · cases h
  next c3 =>
  rw [if_neg c3]
  split at h
  · cases h
  next c4 =>
  rw [if_neg c4]
  split at h
  · cases h
  next c5 =>
  rw [if_neg c5]
  have v1 := vget_ok (s := s) (by simpa using c0)
  have v2 := vget_ok (s := s.drop (vget s).2.1) (by simpa using c2)
  have p1 := v1.pos
  have p2 := v2.pos
  have l1 := v1.len
  have l2 := v2.len
  rw [List.length_drop] at l2
  refine ⟨by simp only; omega, by simp only; omega, ?_⟩
  simp only [List.length_append, List.length_take, List.length_drop]
  omega
def strs (l : List (List UInt8)) : GV := .l (l.map GV.s)
def falls (p : Option (List UInt8)) (s : List UInt8) : Bool := match p with
  | some a => !(Op.bytesLess a s)
  | none => false
def pputs : Option (List UInt8) → List (List UInt8) → Option (List UInt8)
  | _, [] => some []
  | p, s :: l => if falls p s = true then none else (pputs (some s) l).map fun x => oneF (p.getD []) s ++ x
def putT (l : List (List UInt8)) : List UInt8 × Int := match pputs none l with
  | some x => (x, 0)
  | none => ([], 7)
def Sm (n : Nat) (l : List (List UInt8)) : Prop := ∀ s ∈ l, s.length ≤ n
theorem oneF_len (a s : List UInt8) (hs : s.length ≤ 100000000) : (oneF a s).length ≤ 20 + s.length := by
  have hl := common_le a s
  have l1 := vput_len (n := common a s) (by omega)
  have l2 := vput_len (n := s.length - common a s) (by omega)
  unfold oneF
  simp only [List.length_append, List.length_drop]
  omega
def outPut (acc : List UInt8) : Option (List UInt8) → List GV
  | none => [.i .i64 0]
  | some x => [.i .i64 1, .l (byteGs (acc ++ x))]
theorem pputLoop (l : List (List UInt8)) (hl : l.length ≤ 10000) (hs : Sm 100000 l) : ∀ (m i : Nat) (a : List UInt8) (acc : List UInt8), i + m = l.length → 0 < i → a.length ≤ 100000 → acc.length ≤ 200000 * i →
    TT.lim 12 [.s a, .l (l.map GV.s), .i .i64 l.length, .i .i64 i, .l (byteGs acc)] = some (outPut acc (pputs (some a) (l.drop i)))
  | 0, i, a, acc, hi, h0, ha, hacc => by
    have hd : l.drop i = [] := List.drop_eq_nil_of_le (by omega)
    have h : ¬ ((i : Int) < l.length) := by omega
    rw [hd]
    refine tree_lim rfl rfl ?_
    simp [h, pputs, outPut]
  | m + 1, i, a, acc, hi, h0, ha, hacc => by
    have hlt : i < l.length := by omega
    have h : ((i : Int) < l.length) := by omega
    have hx := hs l[i] (List.getElem_mem hlt)
    have h0' : (0 : Int) < i := by omega
    have hle := le_of_less a l[i]
    have wj := wrap64 (n := (i : Int) + 1) (by omega) (by omega)
    rw [List.drop_eq_getElem_cons hlt]
    unfold pputs
    cases hb : Op.bytesLess a l[i] with
    | false =>
      rw [hb] at hle
      have hle' : (Op.bytesLess l[i] a = true ∨ l[i] = a) = True := eq_true (by simpa using hle)
      refine tree_lim rfl rfl ?_
      simp [h, hlt, h0, h0', hle', hb, outPut, falls]
    | true =>
      rw [hb] at hle
      have hle' : (Op.bytesLess l[i] a = true ∨ l[i] = a) = False := eq_false (by simpa using hle)
      have ho := oneP a l[i] (by omega) (by omega)
      have hol := oneF_len a l[i] (by omega)
      have ih : TT.lim 12 [.s l[i], .l (l.map GV.s), .i .i64 l.length, .i .i64 ((i : Int) + 1), .l (byteGs (acc ++ oneF a l[i]))] = _ := pputLoop l hl hs m (i + 1) l[i] (acc ++ oneF a l[i]) (by omega) (by omega) hx (by rw [List.length_append]; omega)
      rw [byteGs_append] at ih
      have hok := byteGs_ok (oneF a l[i])
      have hbb : 2 * (acc.length + (oneF a l[i]).length) ≤ 281474976710656 ∧ acc.length + (oneF a l[i]).length ≤ 281474976710656 := by omega
      have hr : outPut acc ((pputs (some l[i]) (l.drop (i + 1))).map (fun x => oneF a l[i] ++ x)) = outPut (acc ++ oneF a l[i]) (pputs (some l[i]) (l.drop (i + 1))) := by
        cases pputs (some l[i]) (l.drop (i + 1)) with
        | none => rfl
        | some x => simp [outPut]
      simp only [falls, hb, Option.getD_some, Bool.not_true, Bool.false_eq_true, if_false]
      rw [hr]
      generalize outPut (acc ++ oneF a l[i]) (pputs (some l[i]) (l.drop (i + 1))) = R at *
      generalize oneF a l[i] = O at *
      refine tree_lim rfl rfl ?_
      simp [-List.all_eq_true, h, hlt, h0, h0', hle', ho, hok, hbb, wj, ih]
theorem pputs_len : ∀ (l : List (List UInt8)) (p : Option (List UInt8)) (x : List UInt8), Sm 100000 l → pputs p l = some x → x.length ≤ 200000 * l.length
  | [], p, x, _, h => by simp only [pputs, Option.some.injEq] at h; subst h; simp
  | s :: l, p, x, hs, h => by
    unfold pputs at h
    by_cases hc : falls p s = true
    · rw [if_pos hc] at h; cases h
    · rw [if_neg hc] at h
      obtain ⟨y, hy, rfl⟩ := Option.map_eq_some_iff.1 h
      have := pputs_len l (some s) y (fun z hz => hs z (by simp [hz])) hy
      have h1 := hs s (by simp)
      have h2 := oneF_len (p.getD []) s (by omega)
      rw [List.length_append, List.length_cons]; omega
theorem pputP (l : List (List UInt8)) (hl : l.length ≤ 10000) (hs : Sm 100000 l) : TT.lim 3 [strs l] = some [.s (putT l).1, .i .i64 (putT l).2] := by
  unfold strs putT
  cases l with
  | nil =>
    refine fn_lim rfl rfl ?_ rfl
    simp [pputs]
  | cons s l =>
    have hx := hs s (by simp)
    have ho := oneP [] s (by simp) (by omega)
    have hol := oneF_len [] s (by omega)
    have k : TT.lim 12 [.s s, .l ((s :: l).map GV.s), .i .i64 ((s :: l).length : Nat), .i .i64 1, .l (byteGs (oneF [] s))] = _ := pputLoop (s :: l) hl hs l.length 1 s (oneF [] s) (by simp; omega) (by omega) hx (by omega)
    simp only [List.drop_succ_cons, List.drop_zero] at k
    have hok := byteGs_ok (oneF [] s)
    have hbb : 2 * (oneF [] s).length ≤ 281474976710656 ∧ (oneF [] s).length ≤ 281474976710656 := by omega
    have hp : pputs none (s :: l) = (pputs (some s) l).map fun x => oneF [] s ++ x := by simp [pputs, falls]
    rw [hp]
    have hlen : (0 : Int) < ((s :: l).length : Nat) := by simp
    have hll : ((s :: l).length : Int) = (l.length : Int) + 1 := by simp
    have h01 : (0 : Int) < (l.length : Int) + 1 := by omega
    rw [hll] at k
    refine fn_lim rfl rfl ?_ (by rfl)
    cases hq : pputs (some s) l with
    | none =>
      rw [hq] at k
      simp only [outPut] at k
      generalize oneF [] s = O at *
      simp [-List.all_eq_true, h01, ho, hok, hbb] at k ⊢
      simp [k]
    | some x =>
      rw [hq] at k
      simp only [outPut] at k
      have hxl := pputs_len l (some s) x (fun z hz => hs z (by simp [hz])) hq
      have hb2 := bytesG_byteGs (oneF [] s ++ x)
      have hb3 : (oneF [] s).length + x.length ≤ 281474976710656 := by
        have : l.length ≤ 10000 := by simp at hl; omega
        omega
      rw [byteGs_append] at k hb2
      generalize oneF [] s = O at *
      simp [-List.all_eq_true, h01, ho, hok, hbb] at k ⊢
      simp [k, hb2, hb3]
def pall : Nat → List UInt8 → List UInt8 → Bool → List (List UInt8) × Int
  | 0, _, _, _ => ([], 0)
  | n + 1, s, a, first => if s = [] then ([], 0) else
    if (pnext s a first).2.2 ≠ 0 then ([], (pnext s a first).2.2) else
    if (pall n (s.drop (pnext s a first).2.1) (pnext s a first).1 false).2 ≠ 0 then ([], (pall n (s.drop (pnext s a first).2.1) (pnext s a first).1 false).2) else
    ((pnext s a first).1 :: (pall n (s.drop (pnext s a first).2.1) (pnext s a first).1 false).1, 0)
def outAll (acc : List (List UInt8)) (r : List (List UInt8) × Int) : List GV := if r.2 ≠ 0 then [.i .i64 0, .i .i64 r.2] else [.i .i64 1, .l ((acc ++ r.1).map GV.s)]
theorem pall_nil (n : Nat) (a : List UInt8) (first : Bool) : pall n [] a first = ([], 0) := by cases n <;> simp [pall]
theorem pall_step0 (t a X : List UInt8) (at' : Nat) (acc : List (List UInt8)) (first : Bool) (e : Int) (at2 : Nat) (hf : decide ((acc.length : Int) = 0) = first) (hw : IntKind.i64.wrap ((t.length : Int) - (at' : Int)) = (t.length : Int) - (at' : Int)) (hpos : (0 : Int) < (t.length : Int) - (at' : Int)) (he : ¬ e = 0)
    (k : TT.lim 15 [.s t, .s a, .b first, .i .i64 at'] = some [.i .i64 0, .s X, .i .i64 e, .s t, .i .i64 at2]) :
    TT.lim 14 [.l (acc.map GV.s), .s a, .s t, .i .i64 at'] = some [.i .i64 0, .i .i64 e] := by
  have hl : (acc.map GV.s).length = acc.length := by simp
  generalize acc.map GV.s = L at *
  rw [← hl] at hf
  refine tree_lim rfl rfl ?_
  have hpos' : at' < t.length := by omega
  simp [-Int.natCast_eq_zero, hw, hpos, hpos', hf, k, he]
theorem pall_step1 (t a X : List UInt8) (at' : Nat) (acc : List (List UInt8)) (first : Bool) (at2 : Nat) (R : List GV) (hf : decide ((acc.length : Int) = 0) = first) (hw : IntKind.i64.wrap ((t.length : Int) - (at' : Int)) = (t.length : Int) - (at' : Int)) (hpos : (0 : Int) < (t.length : Int) - (at' : Int)) (hb : acc.length ≤ 100000000)
    (k : TT.lim 15 [.s t, .s a, .b first, .i .i64 at'] = some [.i .i64 0, .s X, .i .i64 0, .s t, .i .i64 at2]) (ih : TT.lim 14 [.l ((acc ++ [X]).map GV.s), .s X, .s t, .i .i64 at2] = some R) :
    TT.lim 14 [.l (acc.map GV.s), .s a, .s t, .i .i64 at'] = some R := by
  have hl : (acc.map GV.s).length = acc.length := by simp
  rw [List.map_append] at ih
  generalize acc.map GV.s = L at *
  rw [← hl] at hf hb
  have hb2 : 2 * ((L.length + 1) * 16) ≤ 281474976710656 ∧ L.length + 1 ≤ 281474976710656 := by omega
  have hb3 : 2 * (L.length + 1) * 16 ≤ 281474976710656 ∧ L.length + 1 ≤ 281474976710656 := by omega
  refine tree_lim rfl rfl ?_
  have hpos' : at' < t.length := by omega
  simp [-Int.natCast_eq_zero, hw, hpos, hpos', hf, k, GV.elemOk, hb2, hb3] at ih ⊢
  exact ih
theorem pallLoop (t : List UInt8) (ht : t.length ≤ 100000000) : ∀ (n at' : Nat) (a : List UInt8) (acc : List (List UInt8)), at' ≤ t.length → (t.drop at').length < n → a.length ≤ at' → acc.length ≤ at' →
    TT.lim 14 [.l (acc.map GV.s), .s a, .s t, .i .i64 at'] = some (outAll acc (pall n (t.drop at') a (decide ((acc.length : Int) = 0))))
  | 0, at', a, acc, h, hn, ha, hacc => by omega
  | n + 1, at', a, acc, h, hn, ha, hacc => by
    have hw := wrap64 (n := (t.length : Int) - (at' : Int)) (by omega) (by omega)
    unfold pall
    by_cases hs : t.drop at' = []
    · rw [if_pos hs]
      have : t.length ≤ at' := by simpa using hs
      have hpos : ¬ (0 : Int) < (t.length : Int) - (at' : Int) := by omega
      refine tree_lim rfl rfl ?_
      have hpos' : ¬ at' < t.length := by omega
      simp [hw, hpos, hpos', outAll]
    rw [if_neg hs]
    have hlt : at' < t.length := by
      rcases Nat.lt_or_ge at' t.length with h1 | h1
      · exact h1
      · exact absurd (List.drop_eq_nil_of_le h1) hs
    have hpos : (0 : Int) < (t.length : Int) - (at' : Int) := by omega
    obtain ⟨at2, k, hat⟩ := pnextP t a (decide ((acc.length : Int) = 0)) at' h ht (by omega)
    by_cases he : (pnext (t.drop at') a (decide ((acc.length : Int) = 0))).2.2 = 0
    rotate_left
    · rw [if_pos he]
      have hout : outAll acc ([], (pnext (t.drop at') a (decide ((acc.length : Int) = 0))).2.2) = [.i .i64 0, .i .i64 (pnext (t.drop at') a (decide ((acc.length : Int) = 0))).2.2] := by unfold outAll; rw [if_pos he]
      rw [hout]
      exact pall_step0 t a _ at' acc _ _ at2 rfl hw hpos he k
    rw [if_neg (fun h => h he)]
    obtain ⟨p1, p2, p3⟩ := pnext_ok he
    have hat := hat he
    rw [List.length_drop] at p2 hn
    have ha2 : (pnext (t.drop at') a (decide ((acc.length : Int) = 0))).1.length ≤ at2 := by
      rw [hat]
      split at p3 <;> omega
    have hdd : (t.drop at').drop (pnext (t.drop at') a (decide ((acc.length : Int) = 0))).2.1 = t.drop at2 := by rw [List.drop_drop, hat]
    rw [hdd]
    have ih := pallLoop t ht n at2 (pnext (t.drop at') a (decide ((acc.length : Int) = 0))).1 (acc ++ [(pnext (t.drop at') a (decide ((acc.length : Int) = 0))).1]) (by omega) (by rw [List.length_drop]; omega) ha2 (by rw [List.length_append, List.length_singleton]; omega)
    have hfalse : decide (((acc ++ [(pnext (t.drop at') a (decide ((acc.length : Int) = 0))).1]).length : Int) = 0) = false := by simp; omega
    rw [hfalse] at ih
    rw [he] at k
    generalize hX : (pnext (t.drop at') a (decide ((acc.length : Int) = 0))).1 = X at *
    have hout : (outAll acc (if (pall n (t.drop at2) X false).2 ≠ 0 then ([], (pall n (t.drop at2) X false).2) else (X :: (pall n (t.drop at2) X false).1, 0))) = outAll (acc ++ [X]) (pall n (t.drop at2) X false) := by
      unfold outAll
      by_cases hq : (pall n (t.drop at2) X false).2 = 0
      · simp [hq]
      · simp [hq]
    rw [hout]
    exact pall_step1 t a X at' acc _ at2 _ rfl hw hpos (by omega) k ih
def allT (s : List UInt8) : List (List UInt8) × Int := pall (s.length + 1) s [] true
theorem pall_err : ∀ (n : Nat) (s a : List UInt8) (first : Bool), (pall n s a first).2 ≠ 0 → (pall n s a first).1 = []
  | 0, s, a, first, h => rfl
  | n + 1, s, a, first, h => by
    unfold pall at h ⊢
    by_cases h1 : s = []
    · rw [if_pos h1]
    rw [if_neg h1] at h ⊢
    by_cases h2 : (pnext s a first).2.2 = 0
    rotate_left
    · rw [if_pos h2]
    rw [if_neg (fun h => h h2)] at h ⊢
    by_cases h3 : (pall n (s.drop (pnext s a first).2.1) (pnext s a first).1 false).2 = 0
    · rw [if_neg (fun h => h h3)] at h
      exact absurd rfl h
    · rw [if_pos h3]
theorem pallP (s : List UInt8) (hs : s.length ≤ 100000000) : TT.lim 13 [.s s] = some [strs (allT s).1, .i .i64 (allT s).2] := by
  have k : TT.lim 14 [.l [], .s [], .s s, .i .i64 0] = _ := pallLoop s hs (s.length + 1) 0 [] [] (by omega) (by simp) (by simp) (by simp)
  rw [List.drop_zero, show decide ((([] : List (List UInt8)).length : Int) = 0) = true from rfl] at k
  have he := pall_err (s.length + 1) s [] true
  unfold allT strs
  generalize pall (s.length + 1) s [] true = r at *
  obtain ⟨l, e⟩ := r
  unfold outAll at k
  refine fn_lim rfl rfl ?_ (by rfl)
  by_cases h0 : e = 0
  · subst h0
    simp only [ne_eq, not_true_eq_false, if_false, List.nil_append] at k
    simp [k]
  · have := he h0
    simp only at this
    subst this
    simp only [ne_eq, h0, not_false_eq_true, if_true] at k
    simp [k]
theorem eqsLoop (d e : List (List UInt8)) (hl : d.length = e.length) (hb : d.length ≤ 140737488351232) : ∀ m i : Nat, i + m = d.length →
    TT.lim 20 [.l (d.map GV.s), .l (e.map GV.s), .i .i64 d.length, .i .i64 i] = some (if d.drop i = e.drop i then [.i .i64 1] else [.i .i64 0])
  | 0, i, hi => by
    have h0 : d.drop i = [] := List.drop_eq_nil_of_le (by omega)
    have h1 : e.drop i = [] := List.drop_eq_nil_of_le (by omega)
    refine tree_lim rfl rfl ?_
    have h : ¬ ((i : Int) < d.length) := by omega
    simp [h, h0, h1]
  | m + 1, i, hi => by
    have hlt : i < d.length := by omega
    have hlt2 : i < e.length := by omega
    have ih : TT.lim 20 [.l (d.map GV.s), .l (e.map GV.s), .i .i64 d.length, .i .i64 ((i : Int) + 1)] = _ := eqsLoop d e hl hb m (i + 1) (by omega)
    have hd : (d.drop i = e.drop i) ↔ (d[i] = e[i] ∧ d.drop (i + 1) = e.drop (i + 1)) := by
      rw [List.drop_eq_getElem_cons hlt, List.drop_eq_getElem_cons hlt2, List.cons.injEq]
    refine tree_lim rfl rfl ?_
    have h : ((i : Int) < d.length) := by omega
    have hw := wrap64 (n := (i : Int) + 1) (by omega) (by omega)
    by_cases h1 : d[i] = e[i]
    · have h2 : (d.drop i = e.drop i) ↔ (d.drop (i + 1) = e.drop (i + 1)) := by rw [hd]; simp [h1]
      have h1' : (d[i] = e[i]) = True := eq_true h1
      clear h1
      simp only [h2]
      simp [h, hlt, hlt2, h1', hw, ih]
    · have h2 : ¬ (d.drop i = e.drop i) := by rw [hd]; simp [h1]
      rw [if_neg h2]
      simp [h, hlt, hlt2, h1]
theorem eqsP (d e : List (List UInt8)) (hb : d.length ≤ 140737488351232) (hb2 : e.length ≤ 140737488351232) : TT.lim 19 [strs d, strs e] = some [.b (decide (d = e))] := by
  unfold strs
  refine fn_lim rfl rfl ?_ rfl
  by_cases hl : d.length = e.length
  · have hl' : (d.length : Int) = (e.length : Int) := by omega
    have h32 : TT.lim 20 [.l (d.map GV.s), .l (e.map GV.s), .i .i64 d.length, .i .i64 0] = _ := eqsLoop d e hl hb d.length 0 (by omega)
    rw [List.drop_zero, List.drop_zero] at h32
    by_cases h : d = e
    · rw [if_pos h] at h32
      have h' : (d = e) = True := eq_true h
      clear h
      rw [hl'] at h32
      simp [hl', h32, h']
    · rw [if_neg h] at h32
      rw [hl'] at h32
      simp [hl', h32, h]
  · have hl' : ¬ (d.length : Int) = (e.length : Int) := by omega
    have h : ¬ d = e := fun h => hl (by rw [h])
    simp [hl', hl, h]
def fewS (s : List UInt8) : Bool := decide (s.length ≤ 300)
theorem fewLoop14 (d : List (List UInt8)) (hd : d.length ≤ 140737488351232) : ∀ m i : Nat, i + m = d.length → TT.lim 2 [.l (d.map GV.s), .i .i64 d.length, .i .i64 i] = some (if (d.drop i).all fewS = true then [.i .i64 1, .l (d.map GV.s)] else [.i .i64 0])
  | 0, i, hi => by
    have h0 : d.drop i = [] := List.drop_eq_nil_of_le (by omega)
    refine tree_lim rfl rfl ?_
    have h : ¬ ((i : Int) < d.length) := by omega
    simp [h, h0]
  | m + 1, i, hi => by
    have hlt : i < d.length := by omega
    have ih : TT.lim 2 [.l (d.map GV.s), .i .i64 d.length, .i .i64 ((i : Int) + 1)] = _ := fewLoop14 d hd m (i + 1) (by omega)
    refine tree_lim rfl rfl ?_
    have h : ((i : Int) < d.length) := by omega
    have hw := wrap64 (n := (i : Int) + 1) (by omega) (by omega)
    have hda : (d.drop i).all fewS = (fewS d[i] && (d.drop (i + 1)).all fewS) := by rw [List.drop_eq_getElem_cons hlt, List.all_cons]
    by_cases hf : (300 : Int) < (d[i].length : Int)
    · have : fewS d[i] = false := by unfold fewS; simp; omega
      have hf' : 300 < d[i].length := by omega
      simp [h, hlt, hf, hf', hda, this]
    · have : fewS d[i] = true := by unfold fewS; simp; omega
      have hf' : ¬ 300 < d[i].length := by omega
      rw [hda, this, Bool.true_and]
      simp [h, hlt, hw, hf, hf', ih]
def few14 (d : List (List UInt8)) : Bool := d.all fewS && decide (d.length ≤ 60)
theorem few14P (d : List (List UInt8)) (hd : d.length ≤ 140737488351232) : TT.lim 1 [strs d] = some [.b (few14 d)] := by
  unfold strs
  refine fn_lim rfl rfl ?_ rfl
  have h5 : TT.lim 2 [.l (d.map GV.s), .i .i64 d.length, .i .i64 0] = _ := fewLoop14 d hd d.length 0 (by omega)
  rw [List.drop_zero] at h5
  cases hc : d.all fewS with
  | false => rw [hc] at h5; simp [h5, few14, hc]
  | true =>
    rw [hc] at h5; simp only [if_true] at h5
    have : (decide ((d.length : Int) ≤ 60)) = decide (d.length ≤ 60) := by rw [Bool.eq_iff_iff]; simp; omega
    simp [h5, few14, hc, this]
theorem few14_ok {d : List (List UInt8)} (h : few14 d = true) : d.length ≤ 60 ∧ Sm 300 d := by
  unfold few14 at h
  rw [Bool.and_eq_true, decide_eq_true_iff, List.all_eq_true] at h
  exact ⟨h.2, fun s hs => by have := h.1 s hs; unfold fewS at this; simpa using this⟩
theorem has_strs {g : GV} (h : (GTy.list false [.str]).has g) : ∃ l : List (List UInt8), g = strs l ∧ l.length ≤ 140737488351232 ∧ Sm 140737488351232 l := by
  obtain ⟨xs, rfl, hl, hx⟩ := has_list h
  obtain ⟨rs, h1, rfl⟩ := list_map (f := GV.s) (p := fun s => s.length ≤ 140737488351232) (xs := xs) fun x hx' => by
    obtain ⟨h1, h2⟩ := hx x hx'
    obtain ⟨g, r, e, h3, h4⟩ := hasL_cons h1
    obtain ⟨s, rfl, hs⟩ := has_str h3
    have := hasL_nil h4
    subst this
    have hs' : s.length ≤ 140737488351232 := hs
    cases x <;> simp [GV.cells] at e <;> simp at h2
    · cases e; exact ⟨s, hs', rfl⟩
  exact ⟨rs, rfl, by rw [List.length_map] at hl; exact hl, h1⟩
theorem pnext_put {s a : List UInt8} {first : Bool} (h : (pnext s a first).2.2 = 0) (hf : first = true → a = []) : oneF a (pnext s a first).1 = s.take (pnext s a first).2.1 ∧ (first = false → a < (pnext s a first).1) := by
  have ha : (if first = true then [] else a) = a := by
    cases first with
    | true => rw [if_pos rfl, hf rfl]
    | false => rfl
  unfold pnext at h ⊢
  simp only [ha] at h ⊢
  by_cases h1 : (vget s).2.2 = 0
  rotate_left
  · rw [if_pos h1] at h; exact absurd h h1
  rw [if_neg (fun e => e h1)] at h ⊢
  by_cases h2 : a.length < (vget s).1
  · rw [if_pos h2] at h; exact absurd h (by simp [pfail])
  rw [if_neg h2] at h ⊢
  by_cases h3 : (vget (s.drop (vget s).2.1)).2.2 = 0
  rotate_left
  · rw [if_pos h3] at h; exact absurd h h3
  rw [if_neg (fun e => e h3)] at h ⊢
  by_cases h4 : s.length - ((vget s).2.1 + (vget (s.drop (vget s).2.1)).2.1) < (vget (s.drop (vget s).2.1)).1
  · rw [if_pos h4] at h; exact absurd h (by simp [pfail])
  rw [if_neg h4] at h ⊢
  obtain ⟨v1, v2, v3, v4, v5⟩ := vget_ok h1
  obtain ⟨u1, u2, u3, u4, u5⟩ := vget_ok h3
  have hx : ((s.drop ((vget s).2.1 + (vget (s.drop (vget s).2.1)).2.1)).take (vget (s.drop (vget s).2.1)).1).length = (vget (s.drop (vget s).2.1)).1 := by
    rw [List.length_take, List.length_drop]; omega
  generalize hX : (s.drop ((vget s).2.1 + (vget (s.drop (vget s).2.1)).2.1)).take (vget (s.drop (vget s).2.1)).1 = X at *
  by_cases h5 : first = false ∧ Op.bytesLess a (a.take (vget s).1 ++ X) = false
  · rw [if_pos h5] at h; exact absurd h (by simp [pfail])
  rw [if_neg h5] at h ⊢
  by_cases h6 : (vget s).1 < common a (a.take (vget s).1 ++ X)
  · rw [if_pos h6] at h; exact absurd h (by simp [pfail])
  rw [if_neg h6]
  have hge := common_ge (vget s).1 a X (by omega)
  have hc : common a (a.take (vget s).1 ++ X) = (vget s).1 := by omega
  refine ⟨?_, fun hf => ?_⟩
  · unfold oneF
    simp only [hc]
    have hl : (a.take (vget s).1 ++ X).length - (vget s).1 = (vget (s.drop (vget s).2.1)).1 := by
      rw [List.length_append, List.length_take, hx]; omega
    have hd : (a.take (vget s).1 ++ X).drop (vget s).1 = X := by
      rw [List.drop_append_of_le_length (by rw [List.length_take]; omega)]
      rw [List.drop_eq_nil_of_le (by rw [List.length_take]; omega)]
      rfl
    rw [hl, hd, v5, u5, ← hX]
    rw [List.take_add, List.take_add, ← List.drop_drop]
  · simp only [hf, true_and] at h5
    rw [← bl_iff]
    simpa using h5
theorem common_drop (a s : List UInt8) : a.take (common a s) ++ s.drop (common a s) = s := by
  rw [common_take, List.take_append_drop]
theorem pnext_of (a t y : List UInt8) (first : Bool) (hf : first = true → a = []) (hn : first = false → a < t) (ht : t.length ≤ 100000000) : pnext (oneF a t ++ y) a first = (t, (oneF a t).length, 0) := by
  have ha : (if first = true then [] else a) = a := by
    cases first with
    | true => rw [if_pos rfl, hf rfl]
    | false => rfl
  obtain ⟨c1, c2⟩ := common_le a t
  have e1 : oneF a t ++ y = vput (common a t) ++ (vput (t.length - common a t) ++ (t.drop (common a t) ++ y)) := by unfold oneF; simp
  have v1 := vget_put (common a t) (vput (t.length - common a t) ++ (t.drop (common a t) ++ y)) (by omega)
  have v2 := vget_put (t.length - common a t) (t.drop (common a t) ++ y) (by omega)
  have hl : (oneF a t).length = (vput (common a t)).length + (vput (t.length - common a t)).length + (t.length - common a t) := by unfold oneF; simp; omega
  have hd : (vput (common a t) ++ (vput (t.length - common a t) ++ (t.drop (common a t) ++ y))).drop ((vput (common a t)).length + (vput (t.length - common a t)).length) = t.drop (common a t) ++ y := by
    rw [← List.append_assoc, ← List.length_append, List.drop_left]
  have hx : (t.drop (common a t) ++ y).take (t.length - common a t) = t.drop (common a t) := by
    rw [← List.length_drop, List.take_left]
  have hb : ¬ (first = false ∧ Op.bytesLess a t = false) := by
    rintro ⟨h1, h2⟩
    have := (bl_iff a t).2 (hn h1)
    rw [h2] at this; cases this
  unfold pnext
  simp only [ha]
  rw [e1, v1]
  simp only [ne_eq, not_true_eq_false, if_false, List.drop_left, v2, hd, hx, common_drop]
  rw [if_neg (by omega), if_neg (by simp; omega), if_neg hb, if_neg (by omega), hl]
def RiseT (l : List (List UInt8)) : Prop := l.Pairwise (· < ·)
theorem pputs_rise : ∀ (l : List (List UInt8)) (p : Option (List UInt8)) (x : List UInt8), pputs p l = some x → RiseT l ∧ ∀ a, p = some a → ∀ s ∈ l, a < s
  | [], p, x, _ => ⟨List.Pairwise.nil, fun _ _ s hs => by simp at hs⟩
  | s :: l, p, x, h => by
    unfold pputs at h
    by_cases hc : falls p s = true
    · rw [if_pos hc] at h; cases h
    · rw [if_neg hc] at h
      obtain ⟨y, hy, rfl⟩ := Option.map_eq_some_iff.1 h
      obtain ⟨h1, h2⟩ := pputs_rise l (some s) y hy
      have h3 := h2 s rfl
      refine ⟨List.Pairwise.cons h3 h1, fun a ha t ht => ?_⟩
      subst ha
      have has : a < s := by
        have : (!(Op.bytesLess a s)) = false := by simpa [falls] using hc
        exact (bl_iff a s).1 (by simpa using this)
      rcases List.mem_cons.1 ht with rfl | ht
      · exact has
      · exact List.lt_trans has (h3 t ht)
theorem oneF_pos (a s : List UInt8) : 2 ≤ (oneF a s).length := by
  have h1 := vsize_pos (common a s)
  have h2 := vsize_pos (s.length - common a s)
  unfold vsize at h1 h2
  unfold oneF
  simp only [List.length_append]; omega
theorem pall_of : ∀ (l : List (List UInt8)) (n : Nat) (p : Option (List UInt8)) (x : List UInt8), pputs p l = some x → Sm 100000000 l → x.length < n → pall n x (p.getD []) p.isNone = (l, 0)
  | [], n, p, x, h, _, _ => by
    simp only [pputs, Option.some.injEq] at h
    subst h
    exact pall_nil _ _ _
  | s :: l, n, p, x, h, hs, hn => by
    have hr := (pputs_rise (s :: l) p x h).2
    unfold pputs at h
    by_cases hc : falls p s = true
    · rw [if_pos hc] at h; cases h
    · rw [if_neg hc] at h
      obtain ⟨y, hy, rfl⟩ := Option.map_eq_some_iff.1 h
      have hx := hs s (by simp)
      have hpos := oneF_pos (p.getD []) s
      have hnx := pnext_of (p.getD []) s y p.isNone (fun e => by cases p with | none => rfl | some a => cases e) (fun e => by cases p with | none => cases e | some a => exact hr a rfl s (by simp)) hx
      rw [List.length_append] at hn
      obtain ⟨m, rfl⟩ : ∃ m, n = m + 1 := ⟨n - 1, by omega⟩
      have ih := pall_of l m (some s) y hy (fun z hz => hs z (by simp [hz])) (by omega)
      simp only [Option.getD_some, Option.isNone_some] at ih
      have hne : oneF (p.getD []) s ++ y ≠ [] := by
        intro e
        have := congrArg List.length e
        rw [List.length_append, List.length_nil] at this
        omega
      unfold pall
      rw [if_neg hne, hnx]
      simp only [ne_eq, not_true_eq_false, if_false, List.drop_left, ih]
theorem pall_put : ∀ (n : Nat) (s a : List UInt8) (first : Bool), (pall n s a first).2 = 0 → s.length < n → (first = true → a = []) →
    pputs (if first = true then none else some a) (pall n s a first).1 = some s
  | 0, s, a, first, _, hn, _ => by omega
  | n + 1, s, a, first, h, hn, hf => by
    unfold pall at h ⊢
    by_cases hs : s = []
    · rw [if_pos hs]; subst hs; rfl
    rw [if_neg hs] at h ⊢
    by_cases he : (pnext s a first).2.2 = 0
    rotate_left
    · rw [if_pos he] at h; exact absurd h he
    have he' : ¬ (pnext s a first).2.2 ≠ 0 := fun e => e he
    rw [if_neg he'] at h ⊢
    by_cases hq : (pall n (s.drop (pnext s a first).2.1) (pnext s a first).1 false).2 = 0
    rotate_left
    · rw [if_pos hq] at h; exact absurd h hq
    have hq' : ¬ (pall n (s.drop (pnext s a first).2.1) (pnext s a first).1 false).2 ≠ 0 := fun e => e hq
    rw [if_neg hq']
    obtain ⟨q1, q2, _⟩ := pnext_ok he
    obtain ⟨p1, p2⟩ := pnext_put he hf
    have ih := pall_put n _ _ false hq (by rw [List.length_drop]; omega) (fun e => by cases e)
    rw [if_neg (by simp)] at ih
    have ha : (if first = true then none else some a).getD [] = a := by
      cases first with
      | true => rw [if_pos rfl, hf rfl]; rfl
      | false => rfl
    have hfl : ¬ falls (if first = true then none else some a) (pnext s a first).1 = true := by
      cases first with
      | true => simp [falls]
      | false =>
        have := (bl_iff _ _).2 (p2 rfl)
        simp [falls, this]
    show pputs _ ((pnext s a first).1 :: _) = some s
    unfold pputs
    rw [if_neg hfl, ih, ha, p1, Option.map_some, List.take_append_drop]
theorem pall_sm : ∀ (n : Nat) (s a : List UInt8) (first : Bool) (m : Nat), a.length + s.length ≤ m → Sm m (pall n s a first).1 ∧ (pall n s a first).1.length ≤ s.length
  | 0, s, a, first, m, _ => ⟨fun x hx => by simp [pall] at hx, by simp [pall]⟩
  | n + 1, s, a, first, m, h => by
    unfold pall
    by_cases hs : s = []
    · rw [if_pos hs]; exact ⟨fun x hx => by simp at hx, by simp⟩
    rw [if_neg hs]
    by_cases he : (pnext s a first).2.2 = 0
    rotate_left
    · rw [if_pos he]; exact ⟨fun x hx => by simp at hx, by simp⟩
    rw [if_neg (fun e => e he)]
    by_cases hq : (pall n (s.drop (pnext s a first).2.1) (pnext s a first).1 false).2 = 0
    rotate_left
    · rw [if_pos hq]; exact ⟨fun x hx => by simp at hx, by simp⟩
    rw [if_neg (fun e => e hq)]
    obtain ⟨q1, q2, q3⟩ := pnext_ok he
    have hl : (pnext s a first).1.length + (s.drop (pnext s a first).2.1).length ≤ m := by
      rw [List.length_drop]; split at q3 <;> omega
    obtain ⟨i1, i2⟩ := pall_sm n (s.drop (pnext s a first).2.1) (pnext s a first).1 false m hl
    refine ⟨fun x hx => ?_, ?_⟩
    · rcases List.mem_cons.1 hx with rfl | hx
      · omega
      · exact i1 x hx
    · rw [List.length_drop] at i2
      simp only [List.length_cons]; omega
theorem allT_of {l : List (List UInt8)} {x : List UInt8} (h : pputs none l = some x) (hs : Sm 100000000 l) : allT x = (l, 0) := by
  have := pall_of l (x.length + 1) none x h hs (by omega)
  exact this
theorem allT_put {s : List UInt8} (h : (allT s).2 = 0) : pputs none (allT s).1 = some s := by
  have := pall_put (s.length + 1) s [] true h (by omega) (fun _ => rfl)
  rw [if_pos rfl] at this
  exact this
theorem allT_sm (s : List UInt8) : Sm s.length (allT s).1 ∧ (allT s).1.length ≤ s.length := pall_sm (s.length + 1) s [] true s.length (by simp)
theorem allT_err {s : List UInt8} (h : (allT s).2 ≠ 0) : (allT s).1 = [] := pall_err _ _ _ _ h
theorem rise_at {l : List (List UInt8)} (h : RiseT l) {i : Nat} (hi : i + 1 < l.length) : l[i] < l[i + 1] := List.pairwise_iff_getElem.1 h i (i + 1) (by omega) hi (by omega)
theorem sortedLoop (l : List (List UInt8)) (h : RiseT l) (hb : l.length ≤ 140737488351232) : ∀ i : Nat, (i = 0 ∨ i < l.length) → TT.lim 22 [.l (l.map GV.s), .i .i64 i] = some [.i .i64 1]
  | 0, _ => by
    refine tree_lim rfl rfl ?_
    simp
  | i + 1, hi => by
    have hlt : i + 1 < l.length := by omega
    have hlt' : i < l.length := by omega
    have ih := sortedLoop l h hb i (by omega)
    have hr := rise_at h hlt
    have hn : Op.bytesLess l[i + 1] l[i] = false := (bl_not _ _).2 fun h2 => List.lt_irrefl _ (List.lt_trans hr h2)
    have w1 := wrap64 (n := ((i + 1 : Nat) : Int) - 1) (by omega) (by omega)
    have e1 : ((i + 1 : Nat) : Int) - 1 = (i : Int) := by omega
    rw [e1] at w1
    have h0 : (0 : Int) < ((i + 1 : Nat) : Int) := by omega
    have g1 : (l.map GV.s)[i + 1]? = some (.s l[i + 1]) := by simp [hlt]
    have g2 : (l.map GV.s)[i]? = some (.s l[i]) := by simp [hlt']
    generalize l[i + 1] = X at *
    generalize l[i] = Y at *
    generalize l.map GV.s = L at *
    refine tree_lim rfl rfl ?_
    generalize hI : ((i + 1 : Nat) : Int) = I at *
    have hI0 : (0 : Int) ≤ I := by omega
    have hIn : I.toNat = i + 1 := by omega
    simp [h0, hI0, hIn, e1, w1, g1, g2, hn, ih]
theorem sortedP (l : List (List UInt8)) (h : RiseT l) (hb : l.length ≤ 140737488351232) : TT.lim 21 [strs l] = some [.b true] := by
  unfold strs
  refine fn_lim rfl rfl ?_ rfl
  cases l with
  | nil =>
    have k : TT.lim 22 [.l [], .i .i64 (-1)] = some [.i .i64 1] := by
      refine tree_lim rfl rfl ?_
      simp
    have w := wrap64 (n := (-1 : Int)) (by omega) (by omega)
    simp [k, w]
  | cons x l =>
    have k := sortedLoop (x :: l) h hb l.length (by right; simp)
    have w := wrap64 (n := (l.length : Int)) (by omega) (by simp at hb; omega)
    have e : ((x :: l).length : Int) - 1 = (l.length : Int) := by simp
    have hl : ((x :: l).map GV.s).length = (x :: l).length := by simp
    generalize (x :: l).map GV.s = L at *
    generalize (x :: l).length = n at *
    simp [hl, e, w, k]
theorem compactLoop (l : List (List UInt8)) (h : RiseT l) (hb : l.length ≤ 140737488351232) : ∀ (m i : Nat), i + 1 + m = l.length → TT.lim 25 [.l (l.map GV.s), .i .i64 ((i : Int) + 1)] = some [.i .i64 0, .l (l.map GV.s)]
  | 0, i, hi => by
    have hc : ¬ ((i : Int) + 1 < l.length) := by omega
    have hl : (l.map GV.s).length = l.length := by simp
    generalize l.map GV.s = L at *
    refine tree_lim rfl rfl ?_
    simp [hl, hc]
  | m + 1, i, hi => by
    have hlt : i + 1 < l.length := by omega
    have hlt' : i < l.length := by omega
    have ih : TT.lim 25 [.l (l.map GV.s), .i .i64 ((i : Int) + 1 + 1)] = _ := compactLoop l h hb m (i + 1) (by omega)
    have hr := rise_at h hlt
    have hn : (l[i + 1] = l[i]) = False := eq_false fun e => by rw [e] at hr; exact List.lt_irrefl _ hr
    have hc : ((i : Int) + 1 < l.length) := by omega
    have w1 := wrap64 (n := (i : Int)) (by omega) (by omega)
    have w2 := wrap64 (n := (i : Int) + 1 + 1) (by omega) (by omega)
    have e1 : (i : Int) + 1 - 1 = (i : Int) := by omega
    have g1 : (l.map GV.s)[i + 1]? = some (.s l[i + 1]) := by simp [hlt]
    have g2 : (l.map GV.s)[i]? = some (.s l[i]) := by simp [hlt']
    have hl : (l.map GV.s).length = l.length := by simp
    generalize l[i + 1] = X at *
    generalize l[i] = Y at *
    generalize l.map GV.s = L at *
    refine tree_lim rfl rfl ?_
    generalize hI : (i : Int) + 1 = I at *
    have hI0 : (0 : Int) ≤ I := by omega
    have hIn : I.toNat = i + 1 := by omega
    simp [hl, hc, hI0, hIn, e1, w1, w2, g1, g2, hn, ih]
theorem compactP (l : List (List UInt8)) (h : RiseT l) (hb : l.length ≤ 140737488351232) : TT.lim 24 [strs l] = some [strs l] := by
  unfold strs
  refine fn_lim rfl rfl ?_ rfl
  by_cases hc : l.length < 2
  · have hc' : (l.length : Int) < 2 := by omega
    simp [hc, hc']
  · have hc' : ¬ (l.length : Int) < 2 := by omega
    have k : TT.lim 25 [.l (l.map GV.s), .i .i64 1] = _ := compactLoop l h hb (l.length - 1) 0 (by omega)
    simp [hc, hc', k]
theorem cloneTP (l : List (List UInt8)) (h : l.length ≤ 10000) : TT.lim 23 [strs l] = some [strs l] := by
  refine prim_lim (Ds := Ds) (k := 23) (f := cloneP 16 1) rfl ?_
  have hall : (l.map GV.s).all (GV.elemOk 1) = true := by
    rw [List.all_eq_true]; intro x hx; obtain ⟨r, _, rfl⟩ := List.mem_map.1 hx; rfl
  simp only [cloneP, strs]
  rw [if_pos ⟨by rw [List.length_map]; omega, hall⟩]
theorem back_tail (s : List UInt8) (hs : s.length ≤ 3000) : (∃ e : Int, e ≠ 0 ∧ TT.lim 13 [.s s] = some [.l [], .i .i64 e]) ∨
    ∃ L : List GV, TT.lim 13 [.s s] = some [.l L, .i .i64 0] ∧ TT.lim 3 [.l L] = some [.s s, .i .i64 0] ∧ TT.lim 21 [.l L] = some [.b true] ∧ TT.lim 23 [.l L] = some [.l L] ∧ TT.lim 24 [.l L] = some [.l L] := by
  have k := pallP s (by omega)
  by_cases he : (allT s).2 = 0
  · right
    have hp := allT_put he
    obtain ⟨h1, h2⟩ := allT_sm s
    obtain ⟨r1, _⟩ := pputs_rise _ _ _ hp
    have kp : TT.lim 3 [strs (allT s).1] = some [.s s, .i .i64 0] := by
      have := pputP (allT s).1 (by omega) (fun x hx => Nat.le_trans (h1 x hx) (by omega))
      unfold putT at this
      rw [hp] at this
      exact this
    refine ⟨(allT s).1.map GV.s, by rw [he] at k; exact k, kp, sortedP _ r1 (by omega), cloneTP _ (by omega), compactP _ r1 (by omega)⟩
  · left
    rw [allT_err he] at k
    exact ⟨_, he, k⟩
theorem pback_step0 (LA L : List GV) (s w : List UInt8) (hw : TT.lim 1 [.l LA] = some [.b true]) (hs : ¬ (3000 : Int) < s.length) (hs' : ¬ 3000 < s.length)
    (tail : (∃ e : Int, e ≠ 0 ∧ TT.lim 13 [.s s] = some [.l [], .i .i64 e]) ∨
    ∃ L : List GV, TT.lim 13 [.s s] = some [.l L, .i .i64 0] ∧ TT.lim 3 [.l L] = some [.s s, .i .i64 0] ∧ TT.lim 21 [.l L] = some [.b true] ∧ TT.lim 23 [.l L] = some [.l L] ∧ TT.lim 24 [.l L] = some [.l L])
    (head : (∃ e : Int, e ≠ 0 ∧ TT.lim 3 [.l LA] = some [.s [], .i .i64 e]) ∨ (∃ w, TT.lim 3 [.l LA] = some [.s w, .i .i64 0] ∧ TT.lim 13 [.s w] = some [.l LA, .i .i64 0] ∧ TT.lim 19 [.l LA, .l LA] = some [.b true] ∧ TT.lim 21 [.l LA] = some [.b true])) :
    TT.lim 0 [.l LA, .s s] = some [.b true] := by
  refine fn_lim rfl rfl ?_ rfl
  rcases head with ⟨e, he, p1⟩ | ⟨w, p1, p2, p3, p4⟩
  · rcases tail with ⟨f, hf, t1⟩ | ⟨L, t1, t2, t3, t4, t5⟩
    · simp [hw, hs, hs', p1, he, t1, hf]
    · simp [hw, hs, hs', p1, he, t1, t2, t3, t4, t5]
  · rcases tail with ⟨f, hf, t1⟩ | ⟨L, t1, t2, t3, t4, t5⟩
    · simp [hw, hs, hs', p1, p2, p3, p4, t1, hf]
    · simp [hw, hs, hs', p1, p2, p3, p4, t1, t2, t3, t4, t5]
theorem back14 (l : List (List UInt8)) (s : List UInt8) (hl : l.length ≤ 140737488351232) (hs : s.length ≤ 140737488351232) : TT.lim 0 [strs l, .s s] = some [.b true] := by
  have k1 := few14P l hl
  by_cases c1 : few14 l = true
  rotate_left
  · have c1 : few14 l = false := by simpa using c1
    rw [c1] at k1
    refine fn_lim rfl rfl ?_ rfl
    simp [k1]
  rw [c1] at k1
  obtain ⟨f1, f2⟩ := few14_ok c1
  by_cases c3 : 3000 < s.length
  · have c3' : (3000 : Int) < s.length := by omega
    refine fn_lim rfl rfl ?_ rfl
    simp [k1, c3, c3']
  have c3' : ¬ (3000 : Int) < s.length := by omega
  have sm1 : Sm 100000 l := fun x hx => Nat.le_trans (f2 x hx) (by decide)
  have sm2 : Sm 100000000 l := fun x hx => Nat.le_trans (f2 x hx) (by decide)
  have p1 := pputP l (by omega) sm1
  refine pback_step0 (l.map GV.s) [] s [] k1 c3' c3 (back_tail s (by omega)) ?_
  unfold putT at p1
  cases hp : pputs none l with
  | none =>
    rw [hp] at p1
    exact .inl ⟨7, by decide, p1⟩
  | some w =>
    rw [hp] at p1
    right
    have hw := pputs_len l none w sm1 hp
    have ha := pallP w (by omega)
    rw [allT_of hp sm2] at ha
    obtain ⟨r1, _⟩ := pputs_rise _ _ _ hp
    have ke := eqsP l l (by omega) (by omega)
    rw [decide_eq_true rfl] at ke
    exact ⟨w, p1, ha, ke, sortedP l r1 (by omega)⟩
theorem prefixBack (gs : List GV) (h : hasArgs [(false, [.list false [.str]]), (false, [.str])] gs) : TT.lim 0 gs = some [.b true] := by
  obtain ⟨l, gs, rfl, h1, h⟩ := hasA_sc h
  obtain ⟨s, gs, rfl, h3, h⟩ := hasA_sc h
  obtain rfl := hasA_nil h
  obtain ⟨l, rfl, l1, l2⟩ := has_strs h1
  obtain ⟨s, rfl, hs⟩ := has_str h3
  exact back14 l s l1 hs
end F
end Go.Proofs.YtamcdgfjjeldeaaGreatDoor
