/- What the trees compute: plain laws. -/
import Derived.Test.YtlifdeocdbjalaaGreatDoorKYa
namespace Go.Proofs.YtlifdeocdbjalaaGreatDoor
open Go Go.Abs
set_option linter.unusedSimpArgs false
set_option linter.unusedVariables false
set_option maxRecDepth 100000
namespace Y
structure One where
 deep : Int
 tag : Int
 typ : Int
 num : Int
 text : List UInt8
inductive Fld where
 | mk (tag typ num : Int) (text : List UInt8) (l : List Fld)
def one (x : One) : GV := .g [.i .u8 x.deep, .i .u64 x.tag, .i .i8 x.typ, .i .u64 x.num, .s x.text]
@[simp] theorem one_cells (x : One) : (one x).cells = [.i .u8 x.deep, .i .u64 x.tag, .i .i8 x.typ, .i .u64 x.num, .s x.text] := rfl
mutual
def fldG : Fld → GV
 | .mk t y n s l => .g [.i .u64 t, .i .i64 y, .i .u64 n, .s s, .l (fldsG l)]
def fldsG : List Fld → List GV
 | [] => []
 | f :: l => fldG f :: fldsG l
end
theorem fldsG_len : ∀ (a : List Fld), (fldsG a).length = a.length
 | [] => rfl
 | f :: a => by simp only [fldsG, List.length_cons, fldsG_len a]
structure Bdy where
 kind : Int
 id : Int
 min : Int
 max : Int
 chosen : Int
 flags : Int
 cost : Int
 priority : Int
 deadline : Int
 retry : Int
 epoch : Int
 base : Int
 digest : Int
 lag : Int
 code : Int
 want : Int
 remaining : Int
 allowed : Bool
 name : List UInt8
 region : List UInt8
 note : List UInt8
 d : List Ent
 t : List Row
/-- A message: what it has, and its rest. -/
def msgG (b : Bdy) (r : List GV) : GV := .g [.i .i64 b.kind, .i .u64 b.id, .i .u64 b.min, .i .u64 b.max, .i .u64 b.chosen, .i .u64 b.flags, .i .u64 b.cost, .i .u64 b.priority, .i .u64 b.deadline, .i .u64 b.retry, .i .u64 b.epoch, .i .u64 b.base, .i .u64 b.digest, .i .u64 b.lag, .i .u64 b.code, .i .u64 b.want, .i .i64 b.remaining, .b b.allowed, .s b.name, .s b.region, .s b.note, .l (b.d.map ent), .l (b.t.map row), .l r]
theorem msgG_fold (b : Bdy) (r : List GV) : GV.g [.i .i64 b.kind, .i .u64 b.id, .i .u64 b.min, .i .u64 b.max, .i .u64 b.chosen, .i .u64 b.flags, .i .u64 b.cost, .i .u64 b.priority, .i .u64 b.deadline, .i .u64 b.retry, .i .u64 b.epoch, .i .u64 b.base, .i .u64 b.digest, .i .u64 b.lag, .i .u64 b.code, .i .u64 b.want, .i .i64 b.remaining, .b b.allowed, .s b.name, .s b.region, .s b.note, .l (b.d.map ent), .l (b.t.map row), .l r] = msgG b r := rfl
@[simp] theorem msgG_cells (b : Bdy) (r : List GV) : (msgG b r).cells = [.i .i64 b.kind, .i .u64 b.id, .i .u64 b.min, .i .u64 b.max, .i .u64 b.chosen, .i .u64 b.flags, .i .u64 b.cost, .i .u64 b.priority, .i .u64 b.deadline, .i .u64 b.retry, .i .u64 b.epoch, .i .u64 b.base, .i .u64 b.digest, .i .u64 b.lag, .i .u64 b.code, .i .u64 b.want, .i .i64 b.remaining, .b b.allowed, .s b.name, .s b.region, .s b.note, .l (b.d.map ent), .l (b.t.map row), .l r] := rfl
structure BdyOk (b : Bdy) : Prop where
 kind : -9223372036854775808 ≤ b.kind ∧ b.kind ≤ 9223372036854775807
 id : 0 ≤ b.id ∧ b.id < 18446744073709551616
 min : 0 ≤ b.min ∧ b.min < 18446744073709551616
 max : 0 ≤ b.max ∧ b.max < 18446744073709551616
 chosen : 0 ≤ b.chosen ∧ b.chosen < 18446744073709551616
 flags : 0 ≤ b.flags ∧ b.flags < 18446744073709551616
 cost : 0 ≤ b.cost ∧ b.cost < 18446744073709551616
 priority : 0 ≤ b.priority ∧ b.priority < 18446744073709551616
 deadline : 0 ≤ b.deadline ∧ b.deadline < 18446744073709551616
 retry : 0 ≤ b.retry ∧ b.retry < 18446744073709551616
 epoch : 0 ≤ b.epoch ∧ b.epoch < 18446744073709551616
 base : 0 ≤ b.base ∧ b.base < 18446744073709551616
 digest : 0 ≤ b.digest ∧ b.digest < 18446744073709551616
 lag : 0 ≤ b.lag ∧ b.lag < 18446744073709551616
 code : 0 ≤ b.code ∧ b.code < 18446744073709551616
 want : 0 ≤ b.want ∧ b.want < 18446744073709551616
 remaining : -9223372036854775808 ≤ b.remaining ∧ b.remaining ≤ 9223372036854775807
 name : b.name.length ≤ 140737488351232
 region : b.region.length ≤ 140737488351232
 note : b.note.length ≤ 140737488351232
 d : Ents b.d
 t : Rows b.t
theorem has_int {k : IntKind} {g : GV} (h : (GTy.int k).has g) : ∃ n, g = .i k n ∧ k.min ≤ n ∧ n ≤ k.max := by
 simp only [GTy.has] at h
 exact h
theorem has_i64 {g : GV} (h : (GTy.int .i64).has g) : ∃ n, g = .i .i64 n ∧ -9223372036854775808 ≤ n ∧ n ≤ 9223372036854775807 := by
 obtain ⟨n, rfl, h1, h2⟩ := has_int h
 exact ⟨n, rfl, by simpa [IntKind.min, IntKind.signed, IntKind.bits] using h1, by simpa [IntKind.max, IntKind.signed, IntKind.bits] using h2⟩
structure Spc where
 tag : Int
 use : Int
 from_ : Int
 name : List UInt8
def spc (s : Spc) : GV := .g [.i .u64 s.tag, .i .i64 s.use, .i .i64 s.from_, .s s.name]
@[simp] theorem spc_cells (s : Spc) : (spc s).cells = [.i .u64 s.tag, .i .i64 s.use, .i .i64 s.from_, .s s.name] := rfl
theorem spc_fold (s : Spc) : GV.g [.i .u64 s.tag, .i .i64 s.use, .i .i64 s.from_, .s s.name] = spc s := rfl
def sp1 : List Spc := [⟨1, 0, 1, [109, 105, 110]⟩, ⟨2, 0, 1, [109, 97, 120]⟩, ⟨3, 3, 1, [110, 97, 109, 101]⟩, ⟨4, 3, 2, [114, 101, 103, 105, 111, 110]⟩, ⟨5, 0, 3, [102, 108, 97, 103, 115]⟩]
def sp2 : List Spc := [⟨1, 0, 1, [99, 104, 111, 115, 101, 110]⟩, ⟨2, 3, 1, [110, 97, 109, 101]⟩, ⟨3, 3, 2, [114, 101, 103, 105, 111, 110]⟩]
def sp3 : List Spc := [⟨1, 0, 1, [105, 100]⟩, ⟨2, 4, 1, [100, 101, 115, 99, 114]⟩, ⟨3, 0, 1, [99, 111, 115, 116]⟩, ⟨4, 0, 2, [112, 114, 105, 111, 114, 105, 116, 121]⟩, ⟨5, 0, 3, [100, 101, 97, 100, 108, 105, 110, 101]⟩]
def sp4 : List Spc := [⟨1, 0, 1, [105, 100]⟩, ⟨2, 1, 1, [97, 108, 108, 111, 119, 101, 100]⟩, ⟨3, 2, 1, [114, 101, 109, 97, 105, 110, 105, 110, 103]⟩, ⟨4, 0, 2, [114, 101, 116, 114, 121]⟩, ⟨5, 3, 3, [110, 111, 116, 101]⟩]
def sp5 : List Spc := [⟨1, 0, 1, [101, 112, 111, 99, 104]⟩, ⟨2, 5, 1, [116, 97, 98, 108, 101]⟩, ⟨3, 3, 2, [114, 101, 103, 105, 111, 110]⟩, ⟨4, 0, 3, [100, 105, 103, 101, 115, 116]⟩]
def sp6 : List Spc := [⟨1, 0, 2, [98, 97, 115, 101]⟩, ⟨2, 0, 2, [101, 112, 111, 99, 104]⟩, ⟨3, 5, 2, [116, 97, 98, 108, 101]⟩, ⟨4, 3, 2, [114, 101, 103, 105, 111, 110]⟩, ⟨5, 0, 3, [100, 105, 103, 101, 115, 116]⟩]
def sp7 : List Spc := [⟨1, 0, 1, [101, 112, 111, 99, 104]⟩, ⟨2, 0, 3, [108, 97, 103]⟩]
def sp8 : List Spc := [⟨1, 0, 1, [101, 112, 111, 99, 104]⟩, ⟨2, 0, 1, [99, 111, 100, 101]⟩, ⟨3, 0, 2, [119, 97, 110, 116]⟩, ⟨4, 3, 3, [110, 111, 116, 101]⟩]
def specsF (k : Int) : List Spc := if k = 1 then sp1 else if k = 2 then sp2 else if k = 3 then sp3 else if k = 4 then sp4 else if k = 5 then sp5 else if k = 6 then sp6 else if k = 7 then sp7 else if k = 8 then sp8 else []
def fromK (k : Int) : Int := if k = 1 then 1 else if k = 2 then 1 else if k = 3 then 1 else if k = 4 then 1 else if k = 5 then 1 else if k = 6 then 2 else if k = 7 then 1 else if k = 8 then 1 else 0
def knownF (k v : Int) : List Spc := (specsF k).filter fun s => decide (s.from_ ≤ v)
theorem hello_sp : TT.lim 60 [] = some [.l (sp1.map spc)] := by refine fn_lim rfl rfl ?_ rfl; simp [sp1, spc]
theorem helloAck_sp : TT.lim 62 [] = some [.l (sp2.map spc)] := by refine fn_lim rfl rfl ?_ rfl; simp [sp2, spc]
theorem checkRequest_sp : TT.lim 63 [] = some [.l (sp3.map spc)] := by refine fn_lim rfl rfl ?_ rfl; simp [sp3, spc]
theorem checkResponse_sp : TT.lim 64 [] = some [.l (sp4.map spc)] := by refine fn_lim rfl rfl ?_ rfl; simp [sp4, spc]
theorem fullSnapshot_sp : TT.lim 65 [] = some [.l (sp5.map spc)] := by refine fn_lim rfl rfl ?_ rfl; simp [sp5, spc]
theorem deltaSnapshot_sp : TT.lim 66 [] = some [.l (sp6.map spc)] := by refine fn_lim rfl rfl ?_ rfl; simp [sp6, spc]
theorem ack_sp : TT.lim 67 [] = some [.l (sp7.map spc)] := by refine fn_lim rfl rfl ?_ rfl; simp [sp7, spc]
theorem reject_sp : TT.lim 68 [] = some [.l (sp8.map spc)] := by refine fn_lim rfl rfl ?_ rfl; simp [sp8, spc]
theorem kfrom_ok (k : Int) : TT.lim 58 [.i .i64 k] = some [.i .i64 (fromK k)] := by
 refine fn_lim rfl rfl ?_ rfl
 unfold fromK
 by_cases h1 : k = 1
 ·simp -implicitDefEqProofs [h1]
 by_cases h2 : k = 2
 ·simp -implicitDefEqProofs [h2]
 by_cases h3 : k = 3
 ·simp -implicitDefEqProofs [h3]
 by_cases h4 : k = 4
 ·simp -implicitDefEqProofs [h4]
 by_cases h5 : k = 5
 ·simp -implicitDefEqProofs [h5]
 by_cases h6 : k = 6
 ·simp -implicitDefEqProofs [h6]
 by_cases h7 : k = 7
 ·simp -implicitDefEqProofs [h7]
 by_cases h8 : k = 8
 ·simp -implicitDefEqProofs [h8]
 simp -implicitDefEqProofs [h1, h2, h3, h4, h5, h6, h7, h8]
theorem kknownL (v : Int) (l : List Spc) (hl : l.length ≤ 8) : ∀ (m i : Nat) (acc : List Spc), i + m = l.length → acc.length ≤ i →
  TT.lim 61 [.i .i64 v, .l (acc.map spc), .l (l.map spc), .i .i64 l.length, .i .i64 i] = some [.i .i64 0, .l ((acc ++ (l.drop i).filter fun s => decide (s.from_ ≤ v)).map spc)]
 | 0, i, acc, hi, ha => by
  have h0 : l.drop i = [] := List.drop_eq_nil_of_le (by omega)
  refine tree_lim rfl rfl ?_
  have h : ¬ ((i : Int) < l.length) := by omega
  simp -implicitDefEqProofs [h, h0]
 | m + 1, i, acc, hi, ha => by
  have hlt : i < l.length := by omega
  have hd := List.drop_eq_getElem_cons hlt
  refine tree_lim rfl rfl ?_
  have h : ((i : Int) < l.length) := by omega
  have hw := wrap64 (n := (i : Int) + 1) (by omega) (by omega)
  have hb1 : 2 * (acc.length + 1) * 40 ≤ 281474976710656 := by omega
  have hb2 : acc.length ≤ 281474976710655 := by omega
  have hok : (spc l[i]).elemOk 4 = true := rfl
  have hcast : ((i : Int) + 1) = ((i + 1 : Nat) : Int) := by omega
  by_cases hf : l[i].from_ ≤ v
  ·have ih := kknownL v l hl m (i + 1) (acc ++ [l[i]]) (by omega) (by simp; omega)
   rw [← hcast, List.map_append] at ih
   simp only [List.map_cons, List.map_nil] at ih
   simp -implicitDefEqProofs [-List.getElem_cons_drop, h, hlt, hf, hw, spc_fold, hb1, hb2, hok, ih, hd]
  ·have ih := kknownL v l hl m (i + 1) acc (by omega) (by omega)
   rw [← hcast] at ih
   simp -implicitDefEqProofs [-List.getElem_cons_drop, h, hlt, hf, hw, ih, hd]
theorem sp_len (k : Int) : (specsF k).length ≤ 8 := by
 unfold specsF
 repeat' split
 all_goals (first | (unfold sp1; decide) | (unfold sp2; decide) | (unfold sp3; decide) | (unfold sp4; decide) | (unfold sp5; decide) | (unfold sp6; decide) | (unfold sp7; decide) | (unfold sp8; decide) | decide)
theorem kknown1 (v : Int) (l : List Spc) (hl : l.length ≤ 8) : TT.lim 61 [.i .i64 v, .l [], .l (l.map spc), .i .i64 l.length, .i .i64 0] = some [.i .i64 0, .l ((l.filter fun s => decide (s.from_ ≤ v)).map spc)] := by
 have := kknownL v l hl l.length 0 [] (by omega) (by simp)
 simpa using this
theorem kknown_ok (k v : Int) (h1 : 1 ≤ v) (h3 : v ≤ 3) (hk : fromK k ≤ v) : TT.lim 59 [.i .i64 k, .i .i64 v] = some [.l ((knownF k v).map spc)] := by
 have a1 : ¬ v < 1 := by omega
 have a3 : ¬ 3 < v := by omega
 unfold knownF specsF
 unfold fromK at hk
 have g1 := kknown1 v sp1 (by decide)
 have g2 := kknown1 v sp2 (by decide)
 have g3 := kknown1 v sp3 (by decide)
 have g4 := kknown1 v sp4 (by decide)
 have g5 := kknown1 v sp5 (by decide)
 have g6 := kknown1 v sp6 (by decide)
 have g7 := kknown1 v sp7 (by decide)
 have g8 := kknown1 v sp8 (by decide)
 have e1 := hello_sp
 have e2 := helloAck_sp
 have e3 := checkRequest_sp
 have e4 := checkResponse_sp
 have e5 := fullSnapshot_sp
 have e6 := deltaSnapshot_sp
 have e7 := ack_sp
 have e8 := reject_sp
 generalize sp1 = p1 at *
 generalize sp2 = p2 at *
 generalize sp3 = p3 at *
 generalize sp4 = p4 at *
 generalize sp5 = p5 at *
 generalize sp6 = p6 at *
 generalize sp7 = p7 at *
 generalize sp8 = p8 at *
 refine fn_lim rfl rfl ?_ rfl
 by_cases k1 : k = 1
 ·simp -implicitDefEqProofs [k1, a1, a3, e1, g1]
 by_cases k2 : k = 2
 ·simp -implicitDefEqProofs [k2, a1, a3, e2, g2]
 by_cases k3 : k = 3
 ·simp -implicitDefEqProofs [k3, a1, a3, e3, g3]
 by_cases k4 : k = 4
 ·simp -implicitDefEqProofs [k4, a1, a3, e4, g4]
 by_cases k5 : k = 5
 ·simp -implicitDefEqProofs [k5, a1, a3, e5, g5]
 by_cases k6 : k = 6
 ·have a2 : ¬ v < 2 := by subst k6; simpa using hk
  simp -implicitDefEqProofs [k6, a1, a2, a3, e6, g6]
 by_cases k7 : k = 7
 ·simp -implicitDefEqProofs [k7, a1, a3, e7, g7]
 by_cases k8 : k = 8
 ·simp -implicitDefEqProofs [k8, a1, a3, e8, g8]
 simp -implicitDefEqProofs [k1, k2, k3, k4, k5, k6, k7, k8]
theorem known_nil (k v : Int) (h1 : 1 ≤ v) (h3 : v ≤ 3) : knownF k v = [] ↔ fromK k = 0 ∨ v < fromK k := by
 have hv : v = 1 ∨ v = 2 ∨ v = 3 := by omega
 unfold knownF specsF fromK
 by_cases k1 : k = 1
 ·subst k1; rcases hv with rfl | rfl | rfl <;> decide
 by_cases k2 : k = 2
 ·subst k2; rcases hv with rfl | rfl | rfl <;> decide
 by_cases k3 : k = 3
 ·subst k3; rcases hv with rfl | rfl | rfl <;> decide
 by_cases k4 : k = 4
 ·subst k4; rcases hv with rfl | rfl | rfl <;> decide
 by_cases k5 : k = 5
 ·subst k5; rcases hv with rfl | rfl | rfl <;> decide
 by_cases k6 : k = 6
 ·subst k6; rcases hv with rfl | rfl | rfl <;> decide
 by_cases k7 : k = 7
 ·subst k7; rcases hv with rfl | rfl | rfl <;> decide
 by_cases k8 : k = 8
 ·subst k8; rcases hv with rfl | rfl | rfl <;> decide
 simp -implicitDefEqProofs [k1, k2, k3, k4, k5, k6, k7, k8]
def Fld.tag : Fld → Int
 | .mk t _ _ _ _ => t
theorem fldsG_map : ∀ (a : List Fld), fldsG a = a.map fldG
 | [] => rfl
 | f :: a => by simp only [fldsG, List.map_cons, fldsG_map a]
mutual
def szF : Fld → Nat
 | .mk _ _ _ _ l => szL l + 1
def szL : List Fld → Nat
 | [] => 0
 | f :: l => szF f + szL l + 1
end
mutual
def fldOk : Fld → Prop
 | .mk t y n s k => (0 ≤ t ∧ t < 18446744073709551616 ∧ -128 ≤ y ∧ y ≤ 127 ∧ 0 ≤ n ∧ n < 18446744073709551616 ∧ s.length ≤ 300 ∧ k.length ≤ 1000000) ∧ fldsOk k
def fldsOk : List Fld → Prop
 | [] => True
 | f :: r => fldOk f ∧ fldsOk r
end
theorem fldsOk_mem : ∀ {l : List Fld}, fldsOk l → ∀ f ∈ l, fldOk f
 | f :: l, h, g, hg => by
  simp only [fldsOk] at h
  rcases List.mem_cons.1 hg with rfl | hg
  ·exact h.1
  ·exact fldsOk_mem h.2 g hg
theorem szL_mem : ∀ {l : List Fld} {f : Fld}, f ∈ l → szF f < szL l
 | g :: l, f, h => by
  simp only [szL]
  rcases List.mem_cons.1 h with rfl | h
  ·omega
  ·have := szL_mem h; omega
mutual
/-- What is wrong with fields within so many lists, behind a tag. -/
def chkF1 (w : Nat) : Fld → Int
 | .mk _ y n s k => if y = 0 then (if s = [] ∧ k = [] then 0 else 8) else if y = 1 then (if n = 0 ∧ k = [] then 0 else 8) else if y = 2 then (if n = 0 ∧ s = [] then (if 8 ≤ w then 9 else chkFL (w + 1) 0 k) else 8) else 8
def chkFL (w : Nat) (ahead : Int) : List Fld → Int
 | [] => 0
 | f :: r => if f.tag = 0 then 18 else if 4294967296 < f.tag then 18 else if f.tag ≤ ahead then 7 else if chkF1 w f ≠ 0 then chkF1 w f else chkFL w f.tag r
end
@[simp] theorem fldG_cells (t y n : Int) (s : List UInt8) (k : List Fld) : (fldG (.mk t y n s k)).cells = [.i .u64 t, .i .i64 y, .i .u64 n, .s s, .l (fldsG k)] := by simp only [fldG]; rfl
theorem fldsG_nil (k : List Fld) : (fldsG k).length = 0 ↔ k = [] := by rw [fldsG_len, List.length_eq_zero_iff]
theorem fchk_all : ∀ (N : Nat) (l : List Fld), szL l < N → fldsOk l → l.length ≤ 1000000 → ∀ w : Nat, w ≤ 8 → TT.lim 97 [.l (fldsG l), .i .i64 w] = some [.i .i64 (chkFL w 0 l)]
 | 0, l, h, _, _, _, _ => by omega
 | N + 1, l, hN, hok, hlen, w, hw8 => by
  have loop : ∀ m i (ahead : Int), i + m = l.length → TT.lim 98 [.i .i64 w, .i .u64 ahead, .l (fldsG l), .i .i64 l.length, .i .i64 i] = some (if chkFL w ahead (l.drop i) = 0 then [.i .i64 1] else [.i .i64 0, .i .i64 (chkFL w ahead (l.drop i))]) := by
   intro m
   induction m with
   | zero =>
    intro i ahead hi
    have h0 : l.drop i = [] := List.drop_eq_nil_of_le (by omega)
    refine tree_lim rfl rfl ?_
    have h : ¬ ((i : Int) < l.length) := by omega
    simp -implicitDefEqProofs [h, h0, chkFL]
   | succ m ih =>
    intro i ahead hi
    have hlt : i < l.length := by omega
    rw [List.drop_eq_getElem_cons hlt]
    have hf := fldsOk_mem hok l[i] (List.getElem_mem hlt)
    have hs := szL_mem (List.getElem_mem hlt)
    have hget : (fldsG l)[i]? = some (fldG l[i]) := by rw [fldsG_map, List.getElem?_map, List.getElem?_eq_getElem hlt]; rfl
    have hcast : ((i : Int) + 1) = ((i + 1 : Nat) : Int) := by omega
    have ih' := fun a => ih (i + 1) a (by omega)
    simp only [← hcast] at ih'
    generalize l[i] = f at *
    obtain ⟨t, y, n, s, k⟩ := f
    simp only [fldOk] at hf
    simp only [szF] at hs
    have hwr := wrap64 (n := (i : Int) + 1) (by omega) (by omega)
    have hww := wrap64 (n := (w : Int) + 1) (by omega) (by omega)
    refine tree_lim rfl rfl ?_
    have h : ((i : Int) < l.length) := by omega
    have hk := fun h => fchk_all N k (by omega) hf.2 hf.1.2.2.2.2.2.2.2 (w + 1) h
    simp only [Int.natCast_add, Int.natCast_one] at hk
    have hkl : ((fldsG k).length = 0) = (k = []) := propext (fldsG_nil k)
    simp only [chkFL, Fld.tag]
    by_cases h1 : t = 0
    ·simp -implicitDefEqProofs [h, hget, h1]
    by_cases h2 : 4294967296 < t
    ·simp -implicitDefEqProofs [h, hget, h1, h2]
    by_cases h3 : t ≤ ahead
    ·simp -implicitDefEqProofs [h, hget, h1, h2, h3]
    simp only [chkF1]
    by_cases h4 : y = 0
    ·subst h4
     by_cases h5 : s = []
     ·by_cases h6 : k = []
      ·simp -implicitDefEqProofs [h, hget, h1, h2, h3, h5, h6, hwr, ih', fldsG]
      ·simp -implicitDefEqProofs [h, hget, h1, h2, h3, h5, h6, hwr, ih', hkl]
     ·simp -implicitDefEqProofs [h, hget, h1, h2, h3, h5]
    by_cases h7 : y = 1
    ·subst h7
     by_cases h5 : n = 0
     ·by_cases h6 : k = []
      ·simp -implicitDefEqProofs [h, hget, h1, h2, h3, h5, h6, hwr, ih', fldsG]
      ·simp -implicitDefEqProofs [h, hget, h1, h2, h3, h5, h6, hwr, ih', hkl]
     ·simp -implicitDefEqProofs [h, hget, h1, h2, h3, h5]
    by_cases h8 : y = 2
    ·subst h8
     by_cases h5 : n = 0
     ·by_cases h6 : s = []
      ·by_cases h9 : 8 ≤ w
       ·have h9' : (8 : Int) ≤ w := by omega
        simp -implicitDefEqProofs [h, hget, h1, h2, h3, h5, h6, h9, h9']
       ·have h9' : ¬ (8 : Int) ≤ w := by omega
        have hk := hk (by omega)
        by_cases h10 : chkFL (w + 1) 0 k = 0
        ·rw [h10] at hk
         simp -implicitDefEqProofs [h, hget, h1, h2, h3, h5, h6, h9, h9', hww, hk, h10, hwr, ih', Fld.tag]
        ·simp -implicitDefEqProofs [h, hget, h1, h2, h3, h5, h6, h9, h9', hww, hk, h10, hwr, ih', Fld.tag]
      ·simp -implicitDefEqProofs [h, hget, h1, h2, h3, h5, h6]
     ·simp -implicitDefEqProofs [h, hget, h1, h2, h3, h5]
    simp -implicitDefEqProofs [h, hget, h1, h2, h3, h4, h7, h8]
  have h0 := loop l.length 0 0 (by omega)
  rw [List.drop_zero] at h0
  refine fn_lim rfl rfl ?_ rfl
  have hl2 := fldsG_len l
  by_cases hc : chkFL w 0 l = 0
  ·rw [if_pos hc] at h0
   have h0' : TT.lim 98 [.i .i64 w, .i .u64 0, .l (fldsG l), .i .i64 (fldsG l).length, .i .i64 0] = some [.i .i64 1] := by rw [hl2]; exact h0
   simp -implicitDefEqProofs [h0', hc]
  ·rw [if_neg hc] at h0
   have h0' : TT.lim 98 [.i .i64 w, .i .u64 0, .l (fldsG l), .i .i64 (fldsG l).length, .i .i64 0] = some [.i .i64 0, .i .i64 (chkFL w 0 l)] := by rw [hl2]; exact h0
   simp -implicitDefEqProofs [h0', hc]
theorem fcheck_ok (l : List Fld) (hok : fldsOk l) (hlen : l.length ≤ 1000000) : TT.lim 96 [.l (fldsG l)] = some [.i .i64 (chkFL 0 0 l)] := by
 have h := fchk_all (szL l + 1) l (by omega) hok hlen 0 (by omega)
 have h' : TT.lim 97 [.l (fldsG l), .i .i64 0] = _ := h
 refine fn_lim rfl rfl ?_ rfl
 simp -implicitDefEqProofs [h']
inductive Pl where
 | rem | allow | name | region | note | d | t
 | num (k : Nat)
def n_remaining : List UInt8 := [114, 101, 109, 97, 105, 110, 105, 110, 103]
def n_allowed : List UInt8 := [97, 108, 108, 111, 119, 101, 100]
def n_name : List UInt8 := [110, 97, 109, 101]
def n_region : List UInt8 := [114, 101, 103, 105, 111, 110]
def n_note : List UInt8 := [110, 111, 116, 101]
def n_descr : List UInt8 := [100, 101, 115, 99, 114]
def n_table : List UInt8 := [116, 97, 98, 108, 101]
def n_id : List UInt8 := [105, 100]
def n_min : List UInt8 := [109, 105, 110]
def n_max : List UInt8 := [109, 97, 120]
def n_chosen : List UInt8 := [99, 104, 111, 115, 101, 110]
def n_flags : List UInt8 := [102, 108, 97, 103, 115]
def n_cost : List UInt8 := [99, 111, 115, 116]
def n_priority : List UInt8 := [112, 114, 105, 111, 114, 105, 116, 121]
def n_deadline : List UInt8 := [100, 101, 97, 100, 108, 105, 110, 101]
def n_retry : List UInt8 := [114, 101, 116, 114, 121]
def n_epoch : List UInt8 := [101, 112, 111, 99, 104]
def n_base : List UInt8 := [98, 97, 115, 101]
def n_digest : List UInt8 := [100, 105, 103, 101, 115, 116]
def n_lag : List UInt8 := [108, 97, 103]
def n_code : List UInt8 := [99, 111, 100, 101]
def n_want : List UInt8 := [119, 97, 110, 116]
def placeOf (n : List UInt8) : Option Pl :=
 if n = n_remaining then some .rem else if n = n_allowed then some .allow else if n = n_name then some .name else if n = n_region then some .region else if n = n_note then some .note else if n = n_descr then some .d else if n = n_table then some .t else if n = n_id then some (.num 0) else if n = n_min then some (.num 1) else if n = n_max then some (.num 2) else if n = n_chosen then some (.num 3) else if n = n_flags then some (.num 4) else if n = n_cost then some (.num 5) else if n = n_priority then some (.num 6) else if n = n_deadline then some (.num 7) else if n = n_retry then some (.num 8) else if n = n_epoch then some (.num 9) else if n = n_base then some (.num 10) else if n = n_digest then some (.num 11) else if n = n_lag then some (.num 12) else if n = n_code then some (.num 13) else if n = n_want then some (.num 14) else none
theorem pl_remaining : placeOf n_remaining = some .rem := rfl
theorem pl_allowed : placeOf n_allowed = some .allow := rfl
theorem pl_name : placeOf n_name = some .name := rfl
theorem pl_region : placeOf n_region = some .region := rfl
theorem pl_note : placeOf n_note = some .note := rfl
theorem pl_descr : placeOf n_descr = some .d := rfl
theorem pl_table : placeOf n_table = some .t := rfl
theorem pl_id : placeOf n_id = some (.num 0) := rfl
theorem pl_min : placeOf n_min = some (.num 1) := rfl
theorem pl_max : placeOf n_max = some (.num 2) := rfl
theorem pl_chosen : placeOf n_chosen = some (.num 3) := rfl
theorem pl_flags : placeOf n_flags = some (.num 4) := rfl
theorem pl_cost : placeOf n_cost = some (.num 5) := rfl
theorem pl_priority : placeOf n_priority = some (.num 6) := rfl
theorem pl_deadline : placeOf n_deadline = some (.num 7) := rfl
theorem pl_retry : placeOf n_retry = some (.num 8) := rfl
theorem pl_epoch : placeOf n_epoch = some (.num 9) := rfl
theorem pl_base : placeOf n_base = some (.num 10) := rfl
theorem pl_digest : placeOf n_digest = some (.num 11) := rfl
theorem pl_lag : placeOf n_lag = some (.num 12) := rfl
theorem pl_code : placeOf n_code = some (.num 13) := rfl
theorem pl_want : placeOf n_want = some (.num 14) := rfl
def numB (b : Bdy) (k : Nat) : Int := match k with
 | 0 => b.id
 | 1 => b.min
 | 2 => b.max
 | 3 => b.chosen
 | 4 => b.flags
 | 5 => b.cost
 | 6 => b.priority
 | 7 => b.deadline
 | 8 => b.retry
 | 9 => b.epoch
 | 10 => b.base
 | 11 => b.digest
 | 12 => b.lag
 | 13 => b.code
 | _ => b.want
def nothP (b : Bdy) : Pl → Bool
 | .rem => decide (b.remaining = 0)
 | .allow => !b.allowed
 | .name => decide (b.name = [])
 | .region => decide (b.region = [])
 | .note => decide (b.note = [])
 | .d => decide (b.d = [])
 | .t => decide (b.t = [])
 | .num k => decide (numB b k = 0)
def nothB (b : Bdy) (n : List UInt8) : Bool := match placeOf n with
 | some p => nothP b p
 | none => true
def mayP (b : Bdy) : Pl → Int
 | .name => utfChk b.name 0 256
 | .region => utfChk b.region 0 256
 | .note => utfChk b.note 0 256
 | .d => if b.d = [] then 0 else descrChk b.d
 | .t => checkT b.t
 | _ => 0
def mayB (b : Bdy) (n : List UInt8) : Int := match placeOf n with
 | some p => mayP b p
 | none => 0
/-- A cascade over all names. -/
theorem by_name {Q : List UInt8 → Prop} (h_remaining : Q n_remaining) (h_allowed : Q n_allowed) (h_name : Q n_name) (h_region : Q n_region) (h_note : Q n_note) (h_descr : Q n_descr) (h_table : Q n_table) (h_id : Q n_id) (h_min : Q n_min) (h_max : Q n_max) (h_chosen : Q n_chosen) (h_flags : Q n_flags) (h_cost : Q n_cost) (h_priority : Q n_priority) (h_deadline : Q n_deadline) (h_retry : Q n_retry) (h_epoch : Q n_epoch) (h_base : Q n_base) (h_digest : Q n_digest) (h_lag : Q n_lag) (h_code : Q n_code) (h_want : Q n_want) (h0 : ∀ n, ¬ n = n_remaining → ¬ n = n_allowed → ¬ n = n_name → ¬ n = n_region → ¬ n = n_note → ¬ n = n_descr → ¬ n = n_table → ¬ n = n_id → ¬ n = n_min → ¬ n = n_max → ¬ n = n_chosen → ¬ n = n_flags → ¬ n = n_cost → ¬ n = n_priority → ¬ n = n_deadline → ¬ n = n_retry → ¬ n = n_epoch → ¬ n = n_base → ¬ n = n_digest → ¬ n = n_lag → ¬ n = n_code → ¬ n = n_want → Q n) (n : List UInt8) : Q n := by
 by_cases e_remaining : n = n_remaining
 ·rw [e_remaining]; exact h_remaining
 by_cases e_allowed : n = n_allowed
 ·rw [e_allowed]; exact h_allowed
 by_cases e_name : n = n_name
 ·rw [e_name]; exact h_name
 by_cases e_region : n = n_region
 ·rw [e_region]; exact h_region
 by_cases e_note : n = n_note
 ·rw [e_note]; exact h_note
 by_cases e_descr : n = n_descr
 ·rw [e_descr]; exact h_descr
 by_cases e_table : n = n_table
 ·rw [e_table]; exact h_table
 by_cases e_id : n = n_id
 ·rw [e_id]; exact h_id
 by_cases e_min : n = n_min
 ·rw [e_min]; exact h_min
 by_cases e_max : n = n_max
 ·rw [e_max]; exact h_max
 by_cases e_chosen : n = n_chosen
 ·rw [e_chosen]; exact h_chosen
 by_cases e_flags : n = n_flags
 ·rw [e_flags]; exact h_flags
 by_cases e_cost : n = n_cost
 ·rw [e_cost]; exact h_cost
 by_cases e_priority : n = n_priority
 ·rw [e_priority]; exact h_priority
 by_cases e_deadline : n = n_deadline
 ·rw [e_deadline]; exact h_deadline
 by_cases e_retry : n = n_retry
 ·rw [e_retry]; exact h_retry
 by_cases e_epoch : n = n_epoch
 ·rw [e_epoch]; exact h_epoch
 by_cases e_base : n = n_base
 ·rw [e_base]; exact h_base
 by_cases e_digest : n = n_digest
 ·rw [e_digest]; exact h_digest
 by_cases e_lag : n = n_lag
 ·rw [e_lag]; exact h_lag
 by_cases e_code : n = n_code
 ·rw [e_code]; exact h_code
 by_cases e_want : n = n_want
 ·rw [e_want]; exact h_want
 exact h0 n e_remaining e_allowed e_name e_region e_note e_descr e_table e_id e_min e_max e_chosen e_flags e_cost e_priority e_deadline e_retry e_epoch e_base e_digest e_lag e_code e_want
theorem pl_none (n : List UInt8) (e0 : ¬ n = n_remaining) (e1 : ¬ n = n_allowed) (e2 : ¬ n = n_name) (e3 : ¬ n = n_region) (e4 : ¬ n = n_note) (e5 : ¬ n = n_descr) (e6 : ¬ n = n_table) (e7 : ¬ n = n_id) (e8 : ¬ n = n_min) (e9 : ¬ n = n_max) (e10 : ¬ n = n_chosen) (e11 : ¬ n = n_flags) (e12 : ¬ n = n_cost) (e13 : ¬ n = n_priority) (e14 : ¬ n = n_deadline) (e15 : ¬ n = n_retry) (e16 : ¬ n = n_epoch) (e17 : ¬ n = n_base) (e18 : ¬ n = n_digest) (e19 : ¬ n = n_lag) (e20 : ¬ n = n_code) (e21 : ¬ n = n_want) : placeOf n = none := by
 unfold placeOf
 rw [if_neg e0, if_neg e1, if_neg e2, if_neg e3, if_neg e4, if_neg e5, if_neg e6, if_neg e7, if_neg e8, if_neg e9, if_neg e10, if_neg e11, if_neg e12, if_neg e13, if_neg e14, if_neg e15, if_neg e16, if_neg e17, if_neg e18, if_neg e19, if_neg e20, if_neg e21]
def encM (ps : List (List UInt8)) : List GV := ps.map fun p => .g [.s p, .b true]
def insN (ps : List (List UInt8)) (x : List UInt8) : List (List UInt8) := if x ∈ ps then ps else ps ++ [x]
theorem assoc_encM (n : List UInt8) : ∀ ps : List (List UInt8), assocG (.s n) (encM ps) = if n ∈ ps then some (.b true) else none
 | [] => rfl
 | p :: ps => by
  have ih := assoc_encM n ps
  simp only [encM, List.map_cons, assocG, keyEq] at ih ⊢
  by_cases e : n = p
  ·subst e; simp
  ·have e2 : ¬ p = n := fun h => e h.symm
   simp -implicitDefEqProofs [e, ih]
theorem put_encM (x : List UInt8) : ∀ ps : List (List UInt8), putG (.s x) (.b true) (encM ps) = encM (insN ps x)
 | [] => rfl
 | p :: ps => by
  have ih := put_encM x ps
  unfold insN at ih ⊢
  simp only [encM, List.map_cons, putG, keyEq] at ih ⊢
  by_cases e : x = p
  ·subst e; simp
  ·have e1 : (x == p) = false := by simpa using e
   simp only [e1, Bool.false_eq_true, if_false]
   rw [ih]
   by_cases hm : x ∈ ps
   ·simp only [hm, if_true, List.mem_cons, or_true, List.map_cons]
   ·simp only [hm, if_false, List.mem_cons, e, or_false, List.cons_append, List.map_cons]
def insAll (ps : List (List UInt8)) (l : List Spc) : List (List UInt8) := l.foldl (fun ps s => insN ps s.name) ps
theorem mem_insN (n x : List UInt8) (ps : List (List UInt8)) : n ∈ insN ps x ↔ n ∈ ps ∨ x = n := by
 unfold insN
 split
 ·next h => exact ⟨.inl, fun e => e.elim id (fun e => e ▸ h)⟩
 ·simp -implicitDefEqProofs [eq_comm]
theorem mem_insAll (n : List UInt8) : ∀ (l : List Spc) (ps : List (List UInt8)), n ∈ insAll ps l ↔ n ∈ ps ∨ ∃ s ∈ l, s.name = n
 | [], ps => by simp [insAll]
 | s :: l, ps => by
  have := mem_insAll n l (insN ps s.name)
  unfold insAll at this ⊢
  rw [List.foldl_cons, this, mem_insN]
  simp -implicitDefEqProofs [or_assoc]
def hasN (l : List Spc) (n : List UInt8) : Bool := l.any fun s => decide (s.name = n)
theorem mem_hasN (n : List UInt8) (l : List Spc) : decide (n ∈ insAll [] l) = hasN l n := by
 rw [Bool.eq_iff_iff, decide_eq_true_iff, mem_insAll]
 simp -implicitDefEqProofs [hasN]
theorem mchk0 (b : Bdy) (r : List GV) (l : List Spc) (hl : l.length ≤ 1000) : ∀ (m i : Nat) (ps : List (List UInt8)), i + m = l.length →
  TT.lim 69 [.l (l.map spc), .i .i64 l.length, .i .i64 i, .l (encM ps), .i .i64 b.kind, .i .u64 b.id, .i .u64 b.min, .i .u64 b.max, .i .u64 b.chosen, .i .u64 b.flags, .i .u64 b.cost, .i .u64 b.priority, .i .u64 b.deadline, .i .u64 b.retry, .i .u64 b.epoch, .i .u64 b.base, .i .u64 b.digest, .i .u64 b.lag, .i .u64 b.code, .i .u64 b.want, .i .i64 b.remaining, .b b.allowed, .s b.name, .s b.region, .s b.note, .l (b.d.map ent), .l (b.t.map row), .l r] = some [.i .i64 0, .l (encM (insAll ps (l.drop i)))]
 | 0, i, ps, hi => by
  have h0 : l.drop i = [] := List.drop_eq_nil_of_le (by omega)
  refine tree_lim rfl rfl ?_
  have h : ¬ ((i : Int) < l.length) := by omega
  simp -implicitDefEqProofs [h, h0, insAll]
 | m + 1, i, ps, hi => by
  have hlt : i < l.length := by omega
  have ih := mchk0 b r l hl m (i + 1) (insN ps l[i].name) (by omega)
  have hcast : ((i : Int) + 1) = ((i + 1 : Nat) : Int) := by omega
  rw [← hcast] at ih
  have hp := put_encM l[i].name ps
  have hd : insAll ps (l.drop i) = insAll (insN ps l[i].name) (l.drop (i + 1)) := by
   rw [List.drop_eq_getElem_cons hlt]; rfl
  rw [hd]
  generalize insAll (insN ps l[i].name) (l.drop (i + 1)) = X at *
  generalize encM (insN ps l[i].name) = Y at *
  refine tree_lim rfl rfl ?_
  have h : ((i : Int) < l.length) := by omega
  have hw := wrap64 (n := (i : Int) + 1) (by omega) (by omega)
  simp -implicitDefEqProofs [h, hlt, hw, hp, ih]
/-- One round of the second loop. -/
def Step1 (b : Bdy) (r : List GV) (n : List UInt8) (c : Prop) : Prop := ∀ (sp : GV) (ns : List (List UInt8)) (i : Nat) (ps : List (List UInt8)) (out : List GV) (h : i < ns.length), ((i : Int) < ns.length) → IntKind.i64.wrap ((i : Int) + 1) = (i : Int) + 1 → ns[i] = n → assocG (.s n) (encM ps) = none →
  TT.lim 71 [sp, .l (ns.map .s), .i .i64 ns.length, .i .i64 ((i : Int) + 1), .l (encM ps), .i .i64 b.kind, .i .u64 b.id, .i .u64 b.min, .i .u64 b.max, .i .u64 b.chosen, .i .u64 b.flags, .i .u64 b.cost, .i .u64 b.priority, .i .u64 b.deadline, .i .u64 b.retry, .i .u64 b.epoch, .i .u64 b.base, .i .u64 b.digest, .i .u64 b.lag, .i .u64 b.code, .i .u64 b.want, .i .i64 b.remaining, .b b.allowed, .s b.name, .s b.region, .s b.note, .l (b.d.map ent), .l (b.t.map row), .l r] = some out →
  (c → TT.lim 71 [sp, .l (ns.map .s), .i .i64 ns.length, .i .i64 i, .l (encM ps), .i .i64 b.kind, .i .u64 b.id, .i .u64 b.min, .i .u64 b.max, .i .u64 b.chosen, .i .u64 b.flags, .i .u64 b.cost, .i .u64 b.priority, .i .u64 b.deadline, .i .u64 b.retry, .i .u64 b.epoch, .i .u64 b.base, .i .u64 b.digest, .i .u64 b.lag, .i .u64 b.code, .i .u64 b.want, .i .i64 b.remaining, .b b.allowed, .s b.name, .s b.region, .s b.note, .l (b.d.map ent), .l (b.t.map row), .l r] = some out) ∧ (¬ c → TT.lim 71 [sp, .l (ns.map .s), .i .i64 ns.length, .i .i64 i, .l (encM ps), .i .i64 b.kind, .i .u64 b.id, .i .u64 b.min, .i .u64 b.max, .i .u64 b.chosen, .i .u64 b.flags, .i .u64 b.cost, .i .u64 b.priority, .i .u64 b.deadline, .i .u64 b.retry, .i .u64 b.epoch, .i .u64 b.base, .i .u64 b.digest, .i .u64 b.lag, .i .u64 b.code, .i .u64 b.want, .i .i64 b.remaining, .b b.allowed, .s b.name, .s b.region, .s b.note, .l (b.d.map ent), .l (b.t.map row), .l r] = some [.i .i64 0])
theorem st1_remaining (b : Bdy) (r : List GV) : Step1 b r n_remaining (b.remaining = 0) := by
 intro sp ns i ps out h h1 hw hn ha ih
 unfold n_remaining at *
 refine ⟨fun hc => tree_lim rfl rfl ?_, fun hc => tree_lim rfl rfl ?_⟩
 ·have hc := eq_true hc
  simp -implicitDefEqProofs [h1, h, hn, hw, ha, hc, ih]
 ·simp -implicitDefEqProofs [h1, h, hn, ha, hc]
theorem st1_allowed (b : Bdy) (r : List GV) : Step1 b r n_allowed (b.allowed = false) := by
 intro sp ns i ps out h h1 hw hn ha ih
 unfold n_allowed at *
 refine ⟨fun hc => tree_lim rfl rfl ?_, fun hc => tree_lim rfl rfl ?_⟩
 ·rw [hc] at ih
  simp -implicitDefEqProofs [h1, h, hn, hw, ha, hc, ih]
 ·simp -implicitDefEqProofs [h1, h, hn, ha, hc]
theorem st1_name (b : Bdy) (r : List GV) : Step1 b r n_name (b.name = []) := by
 intro sp ns i ps out h h1 hw hn ha ih
 unfold n_name at *
 refine ⟨fun hc => tree_lim rfl rfl ?_, fun hc => tree_lim rfl rfl ?_⟩
 ·have hc := eq_true hc
  simp -implicitDefEqProofs [h1, h, hn, hw, ha, hc, ih]
 ·simp -implicitDefEqProofs [h1, h, hn, ha, hc]
theorem st1_region (b : Bdy) (r : List GV) : Step1 b r n_region (b.region = []) := by
 intro sp ns i ps out h h1 hw hn ha ih
 unfold n_region at *
 refine ⟨fun hc => tree_lim rfl rfl ?_, fun hc => tree_lim rfl rfl ?_⟩
 ·have hc := eq_true hc
  simp -implicitDefEqProofs [h1, h, hn, hw, ha, hc, ih]
 ·simp -implicitDefEqProofs [h1, h, hn, ha, hc]
theorem st1_note (b : Bdy) (r : List GV) : Step1 b r n_note (b.note = []) := by
 intro sp ns i ps out h h1 hw hn ha ih
 unfold n_note at *
 refine ⟨fun hc => tree_lim rfl rfl ?_, fun hc => tree_lim rfl rfl ?_⟩
 ·have hc := eq_true hc
  simp -implicitDefEqProofs [h1, h, hn, hw, ha, hc, ih]
 ·simp -implicitDefEqProofs [h1, h, hn, ha, hc]
theorem st1_descr (b : Bdy) (r : List GV) : Step1 b r n_descr (b.d = []) := by
 intro sp ns i ps out h h1 hw hn ha ih
 unfold n_descr at *
 refine ⟨fun hc => tree_lim rfl rfl ?_, fun hc => tree_lim rfl rfl ?_⟩
 ·have hc := eq_true hc
  simp -implicitDefEqProofs [h1, h, hn, hw, ha, hc, ih]
 ·simp -implicitDefEqProofs [h1, h, hn, ha, hc]
theorem st1_table (b : Bdy) (r : List GV) : Step1 b r n_table (b.t = []) := by
 intro sp ns i ps out h h1 hw hn ha ih
 unfold n_table at *
 refine ⟨fun hc => tree_lim rfl rfl ?_, fun hc => tree_lim rfl rfl ?_⟩
 ·have hc := eq_true hc
  simp -implicitDefEqProofs [h1, h, hn, hw, ha, hc, ih]
 ·simp -implicitDefEqProofs [h1, h, hn, ha, hc]
theorem st1_id (b : Bdy) (r : List GV) : Step1 b r n_id (b.id = 0) := by
 intro sp ns i ps out h h1 hw hn ha ih
 unfold n_id at *
 refine ⟨fun hc => tree_lim rfl rfl ?_, fun hc => tree_lim rfl rfl ?_⟩
 ·have hc := eq_true hc
  simp -implicitDefEqProofs [h1, h, hn, hw, ha, hc, ih]
 ·simp -implicitDefEqProofs [h1, h, hn, ha, hc]
theorem st1_min (b : Bdy) (r : List GV) : Step1 b r n_min (b.min = 0) := by
 intro sp ns i ps out h h1 hw hn ha ih
 unfold n_min at *
 refine ⟨fun hc => tree_lim rfl rfl ?_, fun hc => tree_lim rfl rfl ?_⟩
 ·have hc := eq_true hc
  simp -implicitDefEqProofs [h1, h, hn, hw, ha, hc, ih]
 ·simp -implicitDefEqProofs [h1, h, hn, ha, hc]
theorem st1_max (b : Bdy) (r : List GV) : Step1 b r n_max (b.max = 0) := by
 intro sp ns i ps out h h1 hw hn ha ih
 unfold n_max at *
 refine ⟨fun hc => tree_lim rfl rfl ?_, fun hc => tree_lim rfl rfl ?_⟩
 ·have hc := eq_true hc
  simp -implicitDefEqProofs [h1, h, hn, hw, ha, hc, ih]
 ·simp -implicitDefEqProofs [h1, h, hn, ha, hc]
theorem st1_chosen (b : Bdy) (r : List GV) : Step1 b r n_chosen (b.chosen = 0) := by
 intro sp ns i ps out h h1 hw hn ha ih
 unfold n_chosen at *
 refine ⟨fun hc => tree_lim rfl rfl ?_, fun hc => tree_lim rfl rfl ?_⟩
 ·have hc := eq_true hc
  simp -implicitDefEqProofs [h1, h, hn, hw, ha, hc, ih]
 ·simp -implicitDefEqProofs [h1, h, hn, ha, hc]
theorem st1_flags (b : Bdy) (r : List GV) : Step1 b r n_flags (b.flags = 0) := by
 intro sp ns i ps out h h1 hw hn ha ih
 unfold n_flags at *
 refine ⟨fun hc => tree_lim rfl rfl ?_, fun hc => tree_lim rfl rfl ?_⟩
 ·have hc := eq_true hc
  simp -implicitDefEqProofs [h1, h, hn, hw, ha, hc, ih]
 ·simp -implicitDefEqProofs [h1, h, hn, ha, hc]
theorem st1_cost (b : Bdy) (r : List GV) : Step1 b r n_cost (b.cost = 0) := by
 intro sp ns i ps out h h1 hw hn ha ih
 unfold n_cost at *
 refine ⟨fun hc => tree_lim rfl rfl ?_, fun hc => tree_lim rfl rfl ?_⟩
 ·have hc := eq_true hc
  simp -implicitDefEqProofs [h1, h, hn, hw, ha, hc, ih]
 ·simp -implicitDefEqProofs [h1, h, hn, ha, hc]
theorem st1_priority (b : Bdy) (r : List GV) : Step1 b r n_priority (b.priority = 0) := by
 intro sp ns i ps out h h1 hw hn ha ih
 unfold n_priority at *
 refine ⟨fun hc => tree_lim rfl rfl ?_, fun hc => tree_lim rfl rfl ?_⟩
 ·have hc := eq_true hc
  simp -implicitDefEqProofs [h1, h, hn, hw, ha, hc, ih]
 ·simp -implicitDefEqProofs [h1, h, hn, ha, hc]
theorem st1_deadline (b : Bdy) (r : List GV) : Step1 b r n_deadline (b.deadline = 0) := by
 intro sp ns i ps out h h1 hw hn ha ih
 unfold n_deadline at *
 refine ⟨fun hc => tree_lim rfl rfl ?_, fun hc => tree_lim rfl rfl ?_⟩
 ·have hc := eq_true hc
  simp -implicitDefEqProofs [h1, h, hn, hw, ha, hc, ih]
 ·simp -implicitDefEqProofs [h1, h, hn, ha, hc]
theorem st1_retry (b : Bdy) (r : List GV) : Step1 b r n_retry (b.retry = 0) := by
 intro sp ns i ps out h h1 hw hn ha ih
 unfold n_retry at *
 refine ⟨fun hc => tree_lim rfl rfl ?_, fun hc => tree_lim rfl rfl ?_⟩
 ·have hc := eq_true hc
  simp -implicitDefEqProofs [h1, h, hn, hw, ha, hc, ih]
 ·simp -implicitDefEqProofs [h1, h, hn, ha, hc]
theorem st1_epoch (b : Bdy) (r : List GV) : Step1 b r n_epoch (b.epoch = 0) := by
 intro sp ns i ps out h h1 hw hn ha ih
 unfold n_epoch at *
 refine ⟨fun hc => tree_lim rfl rfl ?_, fun hc => tree_lim rfl rfl ?_⟩
 ·have hc := eq_true hc
  simp -implicitDefEqProofs [h1, h, hn, hw, ha, hc, ih]
 ·simp -implicitDefEqProofs [h1, h, hn, ha, hc]
theorem st1_base (b : Bdy) (r : List GV) : Step1 b r n_base (b.base = 0) := by
 intro sp ns i ps out h h1 hw hn ha ih
 unfold n_base at *
 refine ⟨fun hc => tree_lim rfl rfl ?_, fun hc => tree_lim rfl rfl ?_⟩
 ·have hc := eq_true hc
  simp -implicitDefEqProofs [h1, h, hn, hw, ha, hc, ih]
 ·simp -implicitDefEqProofs [h1, h, hn, ha, hc]
theorem st1_digest (b : Bdy) (r : List GV) : Step1 b r n_digest (b.digest = 0) := by
 intro sp ns i ps out h h1 hw hn ha ih
 unfold n_digest at *
 refine ⟨fun hc => tree_lim rfl rfl ?_, fun hc => tree_lim rfl rfl ?_⟩
 ·have hc := eq_true hc
  simp -implicitDefEqProofs [h1, h, hn, hw, ha, hc, ih]
 ·simp -implicitDefEqProofs [h1, h, hn, ha, hc]
theorem st1_lag (b : Bdy) (r : List GV) : Step1 b r n_lag (b.lag = 0) := by
 intro sp ns i ps out h h1 hw hn ha ih
 unfold n_lag at *
 refine ⟨fun hc => tree_lim rfl rfl ?_, fun hc => tree_lim rfl rfl ?_⟩
 ·have hc := eq_true hc
  simp -implicitDefEqProofs [h1, h, hn, hw, ha, hc, ih]
 ·simp -implicitDefEqProofs [h1, h, hn, ha, hc]
theorem st1_code (b : Bdy) (r : List GV) : Step1 b r n_code (b.code = 0) := by
 intro sp ns i ps out h h1 hw hn ha ih
 unfold n_code at *
 refine ⟨fun hc => tree_lim rfl rfl ?_, fun hc => tree_lim rfl rfl ?_⟩
 ·have hc := eq_true hc
  simp -implicitDefEqProofs [h1, h, hn, hw, ha, hc, ih]
 ·simp -implicitDefEqProofs [h1, h, hn, ha, hc]
theorem st1_want (b : Bdy) (r : List GV) : Step1 b r n_want (b.want = 0) := by
 intro sp ns i ps out h h1 hw hn ha ih
 unfold n_want at *
 refine ⟨fun hc => tree_lim rfl rfl ?_, fun hc => tree_lim rfl rfl ?_⟩
 ·have hc := eq_true hc
  simp -implicitDefEqProofs [h1, h, hn, hw, ha, hc, ih]
 ·simp -implicitDefEqProofs [h1, h, hn, ha, hc]
theorem names39 : TT.lim 70 [] = some [.l (namesL.map .s)] := prim_lim (Ds := Ds) (k := 70) (f := namesP) rfl rfl
theorem noth_of (b : Bdy) {n : List UInt8} {p : Pl} (h : placeOf n = some p) : nothB b n = nothP b p := by unfold nothB; rw [h]
def Some1 (b : Bdy) (r : List GV) (n : List UInt8) : Prop := ∃ c : Prop, (nothB b n = true ↔ c) ∧ Step1 b r n c
theorem so1_remaining (b : Bdy) (r : List GV) : Some1 b r n_remaining := ⟨_, by rw [noth_of b pl_remaining]; simp [nothP, numB], st1_remaining b r⟩
theorem so1_allowed (b : Bdy) (r : List GV) : Some1 b r n_allowed := ⟨_, by rw [noth_of b pl_allowed]; simp [nothP, numB], st1_allowed b r⟩
theorem so1_name (b : Bdy) (r : List GV) : Some1 b r n_name := ⟨_, by rw [noth_of b pl_name]; simp [nothP, numB], st1_name b r⟩
theorem so1_region (b : Bdy) (r : List GV) : Some1 b r n_region := ⟨_, by rw [noth_of b pl_region]; simp [nothP, numB], st1_region b r⟩
theorem so1_note (b : Bdy) (r : List GV) : Some1 b r n_note := ⟨_, by rw [noth_of b pl_note]; simp [nothP, numB], st1_note b r⟩
theorem so1_descr (b : Bdy) (r : List GV) : Some1 b r n_descr := ⟨_, by rw [noth_of b pl_descr]; simp [nothP, numB], st1_descr b r⟩
theorem so1_table (b : Bdy) (r : List GV) : Some1 b r n_table := ⟨_, by rw [noth_of b pl_table]; simp [nothP, numB], st1_table b r⟩
theorem so1_id (b : Bdy) (r : List GV) : Some1 b r n_id := ⟨_, by rw [noth_of b pl_id]; simp [nothP, numB], st1_id b r⟩
theorem so1_min (b : Bdy) (r : List GV) : Some1 b r n_min := ⟨_, by rw [noth_of b pl_min]; simp [nothP, numB], st1_min b r⟩
theorem so1_max (b : Bdy) (r : List GV) : Some1 b r n_max := ⟨_, by rw [noth_of b pl_max]; simp [nothP, numB], st1_max b r⟩
theorem so1_chosen (b : Bdy) (r : List GV) : Some1 b r n_chosen := ⟨_, by rw [noth_of b pl_chosen]; simp [nothP, numB], st1_chosen b r⟩
theorem so1_flags (b : Bdy) (r : List GV) : Some1 b r n_flags := ⟨_, by rw [noth_of b pl_flags]; simp [nothP, numB], st1_flags b r⟩
theorem so1_cost (b : Bdy) (r : List GV) : Some1 b r n_cost := ⟨_, by rw [noth_of b pl_cost]; simp [nothP, numB], st1_cost b r⟩
theorem so1_priority (b : Bdy) (r : List GV) : Some1 b r n_priority := ⟨_, by rw [noth_of b pl_priority]; simp [nothP, numB], st1_priority b r⟩
theorem so1_deadline (b : Bdy) (r : List GV) : Some1 b r n_deadline := ⟨_, by rw [noth_of b pl_deadline]; simp [nothP, numB], st1_deadline b r⟩
theorem so1_retry (b : Bdy) (r : List GV) : Some1 b r n_retry := ⟨_, by rw [noth_of b pl_retry]; simp [nothP, numB], st1_retry b r⟩
theorem so1_epoch (b : Bdy) (r : List GV) : Some1 b r n_epoch := ⟨_, by rw [noth_of b pl_epoch]; simp [nothP, numB], st1_epoch b r⟩
theorem so1_base (b : Bdy) (r : List GV) : Some1 b r n_base := ⟨_, by rw [noth_of b pl_base]; simp [nothP, numB], st1_base b r⟩
theorem so1_digest (b : Bdy) (r : List GV) : Some1 b r n_digest := ⟨_, by rw [noth_of b pl_digest]; simp [nothP, numB], st1_digest b r⟩
theorem so1_lag (b : Bdy) (r : List GV) : Some1 b r n_lag := ⟨_, by rw [noth_of b pl_lag]; simp [nothP, numB], st1_lag b r⟩
theorem so1_code (b : Bdy) (r : List GV) : Some1 b r n_code := ⟨_, by rw [noth_of b pl_code]; simp [nothP, numB], st1_code b r⟩
theorem so1_want (b : Bdy) (r : List GV) : Some1 b r n_want := ⟨_, by rw [noth_of b pl_want]; simp [nothP, numB], st1_want b r⟩
theorem step1_all (b : Bdy) (r : List GV) (n : List UInt8) : placeOf n ≠ none → Some1 b r n := by
 refine by_name (Q := fun n => placeOf n ≠ none → Some1 b r n) (fun _ => so1_remaining b r) (fun _ => so1_allowed b r) (fun _ => so1_name b r) (fun _ => so1_region b r) (fun _ => so1_note b r) (fun _ => so1_descr b r) (fun _ => so1_table b r) (fun _ => so1_id b r) (fun _ => so1_min b r) (fun _ => so1_max b r) (fun _ => so1_chosen b r) (fun _ => so1_flags b r) (fun _ => so1_cost b r) (fun _ => so1_priority b r) (fun _ => so1_deadline b r) (fun _ => so1_retry b r) (fun _ => so1_epoch b r) (fun _ => so1_base b r) (fun _ => so1_digest b r) (fun _ => so1_lag b r) (fun _ => so1_code b r) (fun _ => so1_want b r) (fun n e0 e1 e2 e3 e4 e5 e6 e7 e8 e9 e10 e11 e12 e13 e14 e15 e16 e17 e18 e19 e20 e21 h => absurd (pl_none n e0 e1 e2 e3 e4 e5 e6 e7 e8 e9 e10 e11 e12 e13 e14 e15 e16 e17 e18 e19 e20 e21) h) n
theorem mchk1 (b : Bdy) (r : List GV) (sp : GV) (ns : List (List UInt8)) (hlen : ns.length ≤ 1000) (hns : ∀ n ∈ ns, placeOf n ≠ none) (ps : List (List UInt8)) : ∀ (m i : Nat), i + m = ns.length →
  TT.lim 71 [sp, .l (ns.map .s), .i .i64 ns.length, .i .i64 i, .l (encM ps), .i .i64 b.kind, .i .u64 b.id, .i .u64 b.min, .i .u64 b.max, .i .u64 b.chosen, .i .u64 b.flags, .i .u64 b.cost, .i .u64 b.priority, .i .u64 b.deadline, .i .u64 b.retry, .i .u64 b.epoch, .i .u64 b.base, .i .u64 b.digest, .i .u64 b.lag, .i .u64 b.code, .i .u64 b.want, .i .i64 b.remaining, .b b.allowed, .s b.name, .s b.region, .s b.note, .l (b.d.map ent), .l (b.t.map row), .l r] = some (if (ns.drop i).all (fun n => decide (n ∈ ps) || nothB b n) = true then [.i .i64 1] else [.i .i64 0])
 | 0, i, hi => by
  have h0 : ns.drop i = [] := List.drop_eq_nil_of_le (by omega)
  refine tree_lim rfl rfl ?_
  have h : ¬ ((i : Int) < ns.length) := by omega
  simp -implicitDefEqProofs [h, h0]
 | m + 1, i, hi => by
  have hlt : i < ns.length := by omega
  have ih := mchk1 b r sp ns hlen hns ps m (i + 1) (by omega)
  have hcast : ((i : Int) + 1) = ((i + 1 : Nat) : Int) := by omega
  rw [← hcast] at ih
  have hd : (ns.drop i).all (fun n => decide (n ∈ ps) || nothB b n) = ((decide (ns[i] ∈ ps) || nothB b ns[i]) && (ns.drop (i + 1)).all (fun n => decide (n ∈ ps) || nothB b n)) := by rw [List.drop_eq_getElem_cons hlt, List.all_cons]
  rw [hd]
  generalize (ns.drop (i + 1)).all (fun n => decide (n ∈ ps) || nothB b n) = X at *
  by_cases hps : ns[i] ∈ ps
  ·have ha := assoc_encM ns[i] ps
   rw [if_pos hps] at ha
   have h1 : ((i : Int) < ns.length) := by omega
   have hw := wrap64 (n := (i : Int) + 1) (by omega) (by omega)
   rw [decide_eq_true hps, Bool.true_or, Bool.true_and]
   refine tree_lim rfl rfl ?_
   simp -implicitDefEqProofs [h1, hlt, hw, ha, ih]
  ·have ha := assoc_encM ns[i] ps
   rw [if_neg hps] at ha
   obtain ⟨c, c1, c2⟩ := step1_all b r ns[i] (hns _ (List.getElem_mem hlt))
   obtain ⟨c3, c4⟩ := c2 sp ns i ps _ hlt (by omega) (wrap64 (n := (i : Int) + 1) (by omega) (by omega)) rfl ha ih
   rw [decide_eq_false hps, Bool.false_or]
   cases hb : nothB b ns[i] with
   | true => rw [c3 (c1.1 hb), Bool.true_and]
   | false => rw [c4 (fun h => by rw [c1.2 h] at hb; cases hb), Bool.false_and]; rfl
def MayIs (b : Bdy) (r : List GV) (k : Nat) (out : List GV) : Prop := TT.lim k [.i .i64 b.kind, .i .u64 b.id, .i .u64 b.min, .i .u64 b.max, .i .u64 b.chosen, .i .u64 b.flags, .i .u64 b.cost, .i .u64 b.priority, .i .u64 b.deadline, .i .u64 b.retry, .i .u64 b.epoch, .i .u64 b.base, .i .u64 b.digest, .i .u64 b.lag, .i .u64 b.code, .i .u64 b.want, .i .i64 b.remaining, .b b.allowed, .s b.name, .s b.region, .s b.note, .l (b.d.map ent), .l (b.t.map row), .l r] = some out
theorem may_of (b : Bdy) {n : List UInt8} {p : Pl} (h : placeOf n = some p) : mayB b n = mayP b p := by unfold mayB; rw [h]
theorem may_remaining (b : Bdy) (r : List GV) : MayIs b r 73 [.i .i64 0] := by
 refine tree_lim rfl rfl ?_
 simp
theorem may_allowed (b : Bdy) (r : List GV) : MayIs b r 74 [.i .i64 0] := by
 refine tree_lim rfl rfl ?_
 simp
theorem may_name (b : Bdy) (r : List GV) (hb : BdyOk b) : MayIs b r 75 [.i .i64 0, .i .i64 (utfChk b.name 0 256)] := by
 have h := check19 b.name 0 256 hb.name
 refine tree_lim rfl rfl ?_
 simp -implicitDefEqProofs [h]
theorem may_region (b : Bdy) (r : List GV) (hb : BdyOk b) : MayIs b r 76 [.i .i64 0, .i .i64 (utfChk b.region 0 256)] := by
 have h := check19 b.region 0 256 hb.region
 refine tree_lim rfl rfl ?_
 simp -implicitDefEqProofs [h]
theorem may_note (b : Bdy) (r : List GV) (hb : BdyOk b) : MayIs b r 77 [.i .i64 0, .i .i64 (utfChk b.note 0 256)] := by
 have h := check19 b.note 0 256 hb.note
 refine tree_lim rfl rfl ?_
 simp -implicitDefEqProofs [h]
theorem may_descr (b : Bdy) (r : List GV) (hb : BdyOk b) : MayIs b r 78 [.i .i64 0, .i .i64 (if b.d = [] then 0 else descrChk b.d)] := by
 have h := check16 b.d hb.d
 refine tree_lim rfl rfl ?_
 by_cases e : b.d = []
 ·simp -implicitDefEqProofs [e]
 ·have e2 : ¬ (List.map ent b.d) = [] := by simpa using e
  have e3 : 0 < b.d.length := List.length_pos_iff.2 e
  simp -implicitDefEqProofs [e, h]
theorem may_table (b : Bdy) (r : List GV) (hb : BdyOk b) (hf : ∀ r ∈ b.t, few12 r.1 = true) : MayIs b r 79 [.i .i64 0, .i .i64 (checkT b.t)] := by
 have h := check37 b.t hb.t hf
 refine tree_lim rfl rfl ?_
 simp -implicitDefEqProofs [h]
theorem may_id (b : Bdy) (r : List GV) : MayIs b r 80 [.i .i64 0] := by
 refine tree_lim rfl rfl ?_
 simp
theorem may_min (b : Bdy) (r : List GV) : MayIs b r 81 [.i .i64 0] := by
 refine tree_lim rfl rfl ?_
 simp
theorem may_max (b : Bdy) (r : List GV) : MayIs b r 82 [.i .i64 0] := by
 refine tree_lim rfl rfl ?_
 simp
theorem may_chosen (b : Bdy) (r : List GV) : MayIs b r 83 [.i .i64 0] := by
 refine tree_lim rfl rfl ?_
 simp
theorem may_flags (b : Bdy) (r : List GV) : MayIs b r 84 [.i .i64 0] := by
 refine tree_lim rfl rfl ?_
 simp
theorem may_cost (b : Bdy) (r : List GV) : MayIs b r 85 [.i .i64 0] := by
 refine tree_lim rfl rfl ?_
 simp
theorem may_priority (b : Bdy) (r : List GV) : MayIs b r 86 [.i .i64 0] := by
 refine tree_lim rfl rfl ?_
 simp
theorem may_deadline (b : Bdy) (r : List GV) : MayIs b r 87 [.i .i64 0] := by
 refine tree_lim rfl rfl ?_
 simp
theorem may_retry (b : Bdy) (r : List GV) : MayIs b r 88 [.i .i64 0] := by
 refine tree_lim rfl rfl ?_
 simp
theorem may_epoch (b : Bdy) (r : List GV) : MayIs b r 89 [.i .i64 0] := by
 refine tree_lim rfl rfl ?_
 simp
theorem may_base (b : Bdy) (r : List GV) : MayIs b r 90 [.i .i64 0] := by
 refine tree_lim rfl rfl ?_
 simp
theorem may_digest (b : Bdy) (r : List GV) : MayIs b r 91 [.i .i64 0] := by
 refine tree_lim rfl rfl ?_
 simp
theorem may_lag (b : Bdy) (r : List GV) : MayIs b r 92 [.i .i64 0] := by
 refine tree_lim rfl rfl ?_
 simp
theorem may_code (b : Bdy) (r : List GV) : MayIs b r 93 [.i .i64 0] := by
 refine tree_lim rfl rfl ?_
 simp
theorem may_want (b : Bdy) (r : List GV) : MayIs b r 94 [.i .i64 0] := by
 refine tree_lim rfl rfl ?_
 simp
/-- One round of the third loop. -/
def Step2 (b : Bdy) (r : List GV) (n : List UInt8) (c : Int) : Prop := ∀ (l : List Spc) (i : Nat) (out : List GV) (h : i < l.length), ((i : Int) < l.length) → IntKind.i64.wrap ((i : Int) + 1) = (i : Int) + 1 → l[i].name = n →
  TT.lim 72 [.l (l.map spc), .i .i64 l.length, .i .i64 ((i : Int) + 1), .i .i64 b.kind, .i .u64 b.id, .i .u64 b.min, .i .u64 b.max, .i .u64 b.chosen, .i .u64 b.flags, .i .u64 b.cost, .i .u64 b.priority, .i .u64 b.deadline, .i .u64 b.retry, .i .u64 b.epoch, .i .u64 b.base, .i .u64 b.digest, .i .u64 b.lag, .i .u64 b.code, .i .u64 b.want, .i .i64 b.remaining, .b b.allowed, .s b.name, .s b.region, .s b.note, .l (b.d.map ent), .l (b.t.map row), .l r] = some out →
  TT.lim 72 [.l (l.map spc), .i .i64 l.length, .i .i64 i, .i .i64 b.kind, .i .u64 b.id, .i .u64 b.min, .i .u64 b.max, .i .u64 b.chosen, .i .u64 b.flags, .i .u64 b.cost, .i .u64 b.priority, .i .u64 b.deadline, .i .u64 b.retry, .i .u64 b.epoch, .i .u64 b.base, .i .u64 b.digest, .i .u64 b.lag, .i .u64 b.code, .i .u64 b.want, .i .i64 b.remaining, .b b.allowed, .s b.name, .s b.region, .s b.note, .l (b.d.map ent), .l (b.t.map row), .l r] = some (if c = 0 then out else [.i .i64 0, .i .i64 c])
theorem st2_remaining (b : Bdy) (r : List GV) : Step2 b r n_remaining 0 := by
 intro l i out h h1 hw hn ih
 have hm := may_remaining b r 
 unfold MayIs at hm
 unfold n_remaining at *
 rw [if_pos rfl]
 refine tree_lim rfl rfl ?_
 simp -implicitDefEqProofs [h1, h, hn, hw, hm, ih]
theorem st2_allowed (b : Bdy) (r : List GV) : Step2 b r n_allowed 0 := by
 intro l i out h h1 hw hn ih
 have hm := may_allowed b r 
 unfold MayIs at hm
 unfold n_allowed at *
 rw [if_pos rfl]
 refine tree_lim rfl rfl ?_
 simp -implicitDefEqProofs [h1, h, hn, hw, hm, ih]
theorem st2_name (b : Bdy) (r : List GV) (hb : BdyOk b) : Step2 b r n_name (utfChk b.name 0 256) := by
 intro l i out h h1 hw hn ih
 have hm := may_name b r hb
 unfold MayIs at hm
 unfold n_name at *
 generalize (utfChk b.name 0 256) = c at *
 by_cases hc : c = 0
 ·subst hc
  rw [if_pos rfl]
  refine tree_lim rfl rfl ?_
  simp -implicitDefEqProofs [h1, h, hn, hw, hm, ih]
 ·rw [if_neg hc]
  refine tree_lim rfl rfl ?_
  simp -implicitDefEqProofs [h1, h, hn, hw, hm, hc]
theorem st2_region (b : Bdy) (r : List GV) (hb : BdyOk b) : Step2 b r n_region (utfChk b.region 0 256) := by
 intro l i out h h1 hw hn ih
 have hm := may_region b r hb
 unfold MayIs at hm
 unfold n_region at *
 generalize (utfChk b.region 0 256) = c at *
 by_cases hc : c = 0
 ·subst hc
  rw [if_pos rfl]
  refine tree_lim rfl rfl ?_
  simp -implicitDefEqProofs [h1, h, hn, hw, hm, ih]
 ·rw [if_neg hc]
  refine tree_lim rfl rfl ?_
  simp -implicitDefEqProofs [h1, h, hn, hw, hm, hc]
theorem st2_note (b : Bdy) (r : List GV) (hb : BdyOk b) : Step2 b r n_note (utfChk b.note 0 256) := by
 intro l i out h h1 hw hn ih
 have hm := may_note b r hb
 unfold MayIs at hm
 unfold n_note at *
 generalize (utfChk b.note 0 256) = c at *
 by_cases hc : c = 0
 ·subst hc
  rw [if_pos rfl]
  refine tree_lim rfl rfl ?_
  simp -implicitDefEqProofs [h1, h, hn, hw, hm, ih]
 ·rw [if_neg hc]
  refine tree_lim rfl rfl ?_
  simp -implicitDefEqProofs [h1, h, hn, hw, hm, hc]
theorem st2_descr (b : Bdy) (r : List GV) (hb : BdyOk b) : Step2 b r n_descr (if b.d = [] then 0 else descrChk b.d) := by
 intro l i out h h1 hw hn ih
 have hm := may_descr b r hb
 unfold MayIs at hm
 unfold n_descr at *
 generalize (if b.d = [] then 0 else descrChk b.d) = c at *
 by_cases hc : c = 0
 ·subst hc
  rw [if_pos rfl]
  refine tree_lim rfl rfl ?_
  simp -implicitDefEqProofs [h1, h, hn, hw, hm, ih]
 ·rw [if_neg hc]
  refine tree_lim rfl rfl ?_
  simp -implicitDefEqProofs [h1, h, hn, hw, hm, hc]
theorem st2_table (b : Bdy) (r : List GV) (hb : BdyOk b) (hf : ∀ r ∈ b.t, few12 r.1 = true) : Step2 b r n_table (checkT b.t) := by
 intro l i out h h1 hw hn ih
 have hm := may_table b r hb hf
 unfold MayIs at hm
 unfold n_table at *
 generalize (checkT b.t) = c at *
 by_cases hc : c = 0
 ·subst hc
  rw [if_pos rfl]
  refine tree_lim rfl rfl ?_
  simp -implicitDefEqProofs [h1, h, hn, hw, hm, ih]
 ·rw [if_neg hc]
  refine tree_lim rfl rfl ?_
  simp -implicitDefEqProofs [h1, h, hn, hw, hm, hc]
theorem st2_id (b : Bdy) (r : List GV) : Step2 b r n_id 0 := by
 intro l i out h h1 hw hn ih
 have hm := may_id b r 
 unfold MayIs at hm
 unfold n_id at *
 rw [if_pos rfl]
 refine tree_lim rfl rfl ?_
 simp -implicitDefEqProofs [h1, h, hn, hw, hm, ih]
theorem st2_min (b : Bdy) (r : List GV) : Step2 b r n_min 0 := by
 intro l i out h h1 hw hn ih
 have hm := may_min b r 
 unfold MayIs at hm
 unfold n_min at *
 rw [if_pos rfl]
 refine tree_lim rfl rfl ?_
 simp -implicitDefEqProofs [h1, h, hn, hw, hm, ih]
theorem st2_max (b : Bdy) (r : List GV) : Step2 b r n_max 0 := by
 intro l i out h h1 hw hn ih
 have hm := may_max b r 
 unfold MayIs at hm
 unfold n_max at *
 rw [if_pos rfl]
 refine tree_lim rfl rfl ?_
 simp -implicitDefEqProofs [h1, h, hn, hw, hm, ih]
theorem st2_chosen (b : Bdy) (r : List GV) : Step2 b r n_chosen 0 := by
 intro l i out h h1 hw hn ih
 have hm := may_chosen b r 
 unfold MayIs at hm
 unfold n_chosen at *
 rw [if_pos rfl]
 refine tree_lim rfl rfl ?_
 simp -implicitDefEqProofs [h1, h, hn, hw, hm, ih]
theorem st2_flags (b : Bdy) (r : List GV) : Step2 b r n_flags 0 := by
 intro l i out h h1 hw hn ih
 have hm := may_flags b r 
 unfold MayIs at hm
 unfold n_flags at *
 rw [if_pos rfl]
 refine tree_lim rfl rfl ?_
 simp -implicitDefEqProofs [h1, h, hn, hw, hm, ih]
theorem st2_cost (b : Bdy) (r : List GV) : Step2 b r n_cost 0 := by
 intro l i out h h1 hw hn ih
 have hm := may_cost b r 
 unfold MayIs at hm
 unfold n_cost at *
 rw [if_pos rfl]
 refine tree_lim rfl rfl ?_
 simp -implicitDefEqProofs [h1, h, hn, hw, hm, ih]
theorem st2_priority (b : Bdy) (r : List GV) : Step2 b r n_priority 0 := by
 intro l i out h h1 hw hn ih
 have hm := may_priority b r 
 unfold MayIs at hm
 unfold n_priority at *
 rw [if_pos rfl]
 refine tree_lim rfl rfl ?_
 simp -implicitDefEqProofs [h1, h, hn, hw, hm, ih]
theorem st2_deadline (b : Bdy) (r : List GV) : Step2 b r n_deadline 0 := by
 intro l i out h h1 hw hn ih
 have hm := may_deadline b r 
 unfold MayIs at hm
 unfold n_deadline at *
 rw [if_pos rfl]
 refine tree_lim rfl rfl ?_
 simp -implicitDefEqProofs [h1, h, hn, hw, hm, ih]
theorem st2_retry (b : Bdy) (r : List GV) : Step2 b r n_retry 0 := by
 intro l i out h h1 hw hn ih
 have hm := may_retry b r 
 unfold MayIs at hm
 unfold n_retry at *
 rw [if_pos rfl]
 refine tree_lim rfl rfl ?_
 simp -implicitDefEqProofs [h1, h, hn, hw, hm, ih]
theorem st2_epoch (b : Bdy) (r : List GV) : Step2 b r n_epoch 0 := by
 intro l i out h h1 hw hn ih
 have hm := may_epoch b r 
 unfold MayIs at hm
 unfold n_epoch at *
 rw [if_pos rfl]
 refine tree_lim rfl rfl ?_
 simp -implicitDefEqProofs [h1, h, hn, hw, hm, ih]
theorem st2_base (b : Bdy) (r : List GV) : Step2 b r n_base 0 := by
 intro l i out h h1 hw hn ih
 have hm := may_base b r 
 unfold MayIs at hm
 unfold n_base at *
 rw [if_pos rfl]
 refine tree_lim rfl rfl ?_
 simp -implicitDefEqProofs [h1, h, hn, hw, hm, ih]
theorem st2_digest (b : Bdy) (r : List GV) : Step2 b r n_digest 0 := by
 intro l i out h h1 hw hn ih
 have hm := may_digest b r 
 unfold MayIs at hm
 unfold n_digest at *
 rw [if_pos rfl]
 refine tree_lim rfl rfl ?_
 simp -implicitDefEqProofs [h1, h, hn, hw, hm, ih]
theorem st2_lag (b : Bdy) (r : List GV) : Step2 b r n_lag 0 := by
 intro l i out h h1 hw hn ih
 have hm := may_lag b r 
 unfold MayIs at hm
 unfold n_lag at *
 rw [if_pos rfl]
 refine tree_lim rfl rfl ?_
 simp -implicitDefEqProofs [h1, h, hn, hw, hm, ih]
theorem st2_code (b : Bdy) (r : List GV) : Step2 b r n_code 0 := by
 intro l i out h h1 hw hn ih
 have hm := may_code b r 
 unfold MayIs at hm
 unfold n_code at *
 rw [if_pos rfl]
 refine tree_lim rfl rfl ?_
 simp -implicitDefEqProofs [h1, h, hn, hw, hm, ih]
theorem st2_want (b : Bdy) (r : List GV) : Step2 b r n_want 0 := by
 intro l i out h h1 hw hn ih
 have hm := may_want b r 
 unfold MayIs at hm
 unfold n_want at *
 rw [if_pos rfl]
 refine tree_lim rfl rfl ?_
 simp -implicitDefEqProofs [h1, h, hn, hw, hm, ih]
theorem step2_all (b : Bdy) (r : List GV) (hb : BdyOk b) (hf : ∀ r ∈ b.t, few12 r.1 = true) (n : List UInt8) : placeOf n ≠ none → Step2 b r n (mayB b n) := by
 refine by_name (Q := fun n => placeOf n ≠ none → Step2 b r n (mayB b n)) (fun _ => by rw [may_of b pl_remaining]; exact st2_remaining b r ) (fun _ => by rw [may_of b pl_allowed]; exact st2_allowed b r ) (fun _ => by rw [may_of b pl_name]; exact st2_name b r hb) (fun _ => by rw [may_of b pl_region]; exact st2_region b r hb) (fun _ => by rw [may_of b pl_note]; exact st2_note b r hb) (fun _ => by rw [may_of b pl_descr]; exact st2_descr b r hb) (fun _ => by rw [may_of b pl_table]; exact st2_table b r hb hf) (fun _ => by rw [may_of b pl_id]; exact st2_id b r ) (fun _ => by rw [may_of b pl_min]; exact st2_min b r ) (fun _ => by rw [may_of b pl_max]; exact st2_max b r ) (fun _ => by rw [may_of b pl_chosen]; exact st2_chosen b r ) (fun _ => by rw [may_of b pl_flags]; exact st2_flags b r ) (fun _ => by rw [may_of b pl_cost]; exact st2_cost b r ) (fun _ => by rw [may_of b pl_priority]; exact st2_priority b r ) (fun _ => by rw [may_of b pl_deadline]; exact st2_deadline b r ) (fun _ => by rw [may_of b pl_retry]; exact st2_retry b r ) (fun _ => by rw [may_of b pl_epoch]; exact st2_epoch b r ) (fun _ => by rw [may_of b pl_base]; exact st2_base b r ) (fun _ => by rw [may_of b pl_digest]; exact st2_digest b r ) (fun _ => by rw [may_of b pl_lag]; exact st2_lag b r ) (fun _ => by rw [may_of b pl_code]; exact st2_code b r ) (fun _ => by rw [may_of b pl_want]; exact st2_want b r ) (fun n e0 e1 e2 e3 e4 e5 e6 e7 e8 e9 e10 e11 e12 e13 e14 e15 e16 e17 e18 e19 e20 e21 h => absurd (pl_none n e0 e1 e2 e3 e4 e5 e6 e7 e8 e9 e10 e11 e12 e13 e14 e15 e16 e17 e18 e19 e20 e21) h) n
/-- The first thing that is wrong with the values of names. -/
def mayL (b : Bdy) : List Spc → Int
 | [] => 0
 | s :: l => if mayB b s.name = 0 then mayL b l else mayB b s.name
theorem mchk2 (b : Bdy) (r : List GV) (hb : BdyOk b) (hf : ∀ r ∈ b.t, few12 r.1 = true) (l : List Spc) (hlen : l.length ≤ 1000) (hns : ∀ s ∈ l, placeOf s.name ≠ none) : ∀ (m i : Nat), i + m = l.length →
  TT.lim 72 [.l (l.map spc), .i .i64 l.length, .i .i64 i, .i .i64 b.kind, .i .u64 b.id, .i .u64 b.min, .i .u64 b.max, .i .u64 b.chosen, .i .u64 b.flags, .i .u64 b.cost, .i .u64 b.priority, .i .u64 b.deadline, .i .u64 b.retry, .i .u64 b.epoch, .i .u64 b.base, .i .u64 b.digest, .i .u64 b.lag, .i .u64 b.code, .i .u64 b.want, .i .i64 b.remaining, .b b.allowed, .s b.name, .s b.region, .s b.note, .l (b.d.map ent), .l (b.t.map row), .l r] = some (if mayL b (l.drop i) = 0 then [.i .i64 1] else [.i .i64 0, .i .i64 (mayL b (l.drop i))])
 | 0, i, hi => by
  have h0 : l.drop i = [] := List.drop_eq_nil_of_le (by omega)
  refine tree_lim rfl rfl ?_
  have h : ¬ ((i : Int) < l.length) := by omega
  simp -implicitDefEqProofs [h, h0, mayL]
 | m + 1, i, hi => by
  have hlt : i < l.length := by omega
  have ih := mchk2 b r hb hf l hlen hns m (i + 1) (by omega)
  have hcast : ((i : Int) + 1) = ((i + 1 : Nat) : Int) := by omega
  rw [← hcast] at ih
  have := step2_all b r hb hf l[i].name (hns _ (List.getElem_mem hlt)) l i _ hlt (by omega) (wrap64 (n := (i : Int) + 1) (by omega) (by omega)) rfl ih
  rw [this, List.drop_eq_getElem_cons hlt]
  by_cases hc : mayB b l[i].name = 0
  ·have hm : mayL b (l[i] :: l.drop (i + 1)) = mayL b (l.drop (i + 1)) := by simp only [mayL, hc, if_true]
   rw [if_pos hc, hm]
  ·have hm : mayL b (l[i] :: l.drop (i + 1)) = mayB b l[i].name := by simp only [mayL, hc, if_false]
   rw [if_neg hc, hm, if_neg hc]
def hasTag (l : List Spc) (t : Int) : Bool := l.any fun s => decide (t = s.tag)
theorem mchk30 (l : List Spc) (hlen : l.length ≤ 1000) (a1 a2 a3 : GV) (t : Int) (a7 a8 a9 a10 : GV) : ∀ (m i : Nat), i + m = l.length →
  TT.lim 100 [.l (l.map spc), a1, a2, a3, .i .i64 l.length, .i .i64 i, .i .u64 t, a7, a8, a9, a10] = some (if hasTag (l.drop i) t = true then [.i .i64 0] else [.i .i64 1])
 | 0, i, hi => by
  have h0 : l.drop i = [] := List.drop_eq_nil_of_le (by omega)
  refine tree_lim rfl rfl ?_
  have h : ¬ ((i : Int) < l.length) := by omega
  simp -implicitDefEqProofs [h, h0, hasTag]
 | m + 1, i, hi => by
  have hlt : i < l.length := by omega
  have ih := mchk30 l hlen a1 a2 a3 t a7 a8 a9 a10 m (i + 1) (by omega)
  have hcast : ((i : Int) + 1) = ((i + 1 : Nat) : Int) := by omega
  rw [← hcast] at ih
  have h1 : ((i : Int) < l.length) := by omega
  have hw := wrap64 (n := (i : Int) + 1) (by omega) (by omega)
  have hd : hasTag (l.drop i) t = (decide (t = l[i].tag) || hasTag (l.drop (i + 1)) t) := by rw [List.drop_eq_getElem_cons hlt]; rfl
  rw [hd]
  generalize hasTag (l.drop (i + 1)) t = X at *
  refine tree_lim rfl rfl ?_
  by_cases hc : t = l[i].tag
  ·simp -implicitDefEqProofs [h1, hlt, hc]
  ·simp -implicitDefEqProofs [h1, hlt, hc, hw, ih]
theorem mchk3 (l : List Spc) (hlen : l.length ≤ 1000) (fl : List Fld) (hfl : fl.length ≤ 1000000) : ∀ (m i : Nat), i + m = fl.length →
  TT.lim 99 [.l (l.map spc), .l (fldsG fl), .i .i64 fl.length, .i .i64 i] = some (if (fl.drop i).any (fun f => hasTag l f.tag) = true then [.i .i64 0] else [.i .i64 1])
 | 0, i, hi => by
  have h0 : fl.drop i = [] := List.drop_eq_nil_of_le (by omega)
  refine tree_lim rfl rfl ?_
  have h : ¬ ((i : Int) < fl.length) := by omega
  simp -implicitDefEqProofs [h, h0]
 | m + 1, i, hi => by
  have hlt : i < fl.length := by omega
  have ih := mchk3 l hlen fl hfl m (i + 1) (by omega)
  have hcast : ((i : Int) + 1) = ((i + 1 : Nat) : Int) := by omega
  rw [← hcast] at ih
  have h1 : ((i : Int) < fl.length) := by omega
  have hw := wrap64 (n := (i : Int) + 1) (by omega) (by omega)
  have hd : (fl.drop i).any (fun f => hasTag l f.tag) = (hasTag l fl[i].tag || (fl.drop (i + 1)).any (fun f => hasTag l f.tag)) := by rw [List.drop_eq_getElem_cons hlt, List.any_cons]
  rw [hd]
  have hget : (fldsG fl)[i]? = some (fldG fl[i]) := by rw [fldsG_map, List.getElem?_map, List.getElem?_eq_getElem hlt]; rfl
  clear hd
  obtain ⟨t, y, n, s, k, hfi⟩ : ∃ t y n s k, fl[i] = Fld.mk t y n s k := by
   cases fl[i] with
   | mk t y n s k => exact ⟨_, _, _, _, _, rfl⟩
  rw [hfi] at hget ⊢
  rw [show (Fld.mk t y n s k).tag = t from rfl]
  have h3 : TT.lim 100 [.l (l.map spc), .l (fldsG fl), .i .i64 fl.length, .i .i64 i, .i .i64 l.length, .i .i64 0, .i .u64 t, .i .i64 y, .i .u64 n, .s s, .l (fldsG k)] = _ := mchk30 l hlen _ _ _ t _ _ _ _ l.length 0 (by omega)
  rw [List.drop_zero] at h3
  refine tree_lim rfl rfl ?_
  by_cases hc : hasTag l t = true
  ·rw [if_pos hc] at h3
   simp -implicitDefEqProofs [-List.any_eq_true, h1, hget, h3, hc]
  ·rw [if_neg hc] at h3
   have hc : hasTag l t = false := by simpa using hc
   simp -implicitDefEqProofs [-List.any_eq_true, h1, hget, h3, hw, ih, hc]
def boundsF (b : Bdy) : Int :=
 if b.kind = 1 then (if b.min < 1 then 18 else if b.max < b.min then 18 else if 255 < b.max then 18 else 0)
 else if b.kind = 2 then (if b.chosen < 1 then 18 else if 255 < b.chosen then 18 else 0)
 else if b.kind = 3 then (if b.d = [] then 12 else 0)
 else if b.kind = 5 then (if b.epoch < 1 then 18 else 0)
 else if b.kind = 6 then (if b.base < 1 then 18 else if b.epoch ≤ b.base then 20 else 0)
 else 0
/-- What is said of a message at a version. -/
def restM (sp : List Spc) (fl : List Fld) : Int := if chkFL 0 0 fl ≠ 0 then chkFL 0 0 fl else if fl.any (fun f => hasTag sp f.tag) = true then 14 else 0
def checkM (b : Bdy) (fl : List Fld) (v : Int) : Int :=
 if v < 1 then 16 else if 3 < v then 16 else
 if knownF b.kind v = [] then 15 else
 if namesL.all (fun n => hasN (knownF b.kind v) n || nothB b n) = false then 26 else
 if mayL b (knownF b.kind v) ≠ 0 then mayL b (knownF b.kind v) else
 if boundsF b ≠ 0 then boundsF b else restM (knownF b.kind v) fl
theorem names_place : ∀ n ∈ namesL, placeOf n ≠ none := by decide
theorem known_place (k v : Int) : ∀ s ∈ knownF k v, placeOf s.name ≠ none := by
 have key : ∀ s ∈ specsF k, placeOf s.name ≠ none := by
  unfold specsF
  repeat' split
  all_goals first | (unfold sp1; decide) | (unfold sp2; decide) | (unfold sp3; decide) | (unfold sp4; decide) | (unfold sp5; decide) | (unfold sp6; decide) | (unfold sp7; decide) | (unfold sp8; decide) | (intro s hs; cases hs)
 intro s hs
 exact key s (List.mem_filter.1 hs).1
theorem known_len (k v : Int) : (knownF k v).length ≤ 8 := Nat.le_trans (List.length_filter_le _ _) (sp_len k)
set_option maxHeartbeats 4000000 in
theorem mcheck_ok (b : Bdy) (fl : List Fld) (v : Int) (hb : BdyOk b) (hf : ∀ r ∈ b.t, few12 r.1 = true) (hok : fldsOk fl) (hlen : fl.length ≤ 1000000) : TT.lim 57 [msgG b (fldsG fl), .i .i64 v] = some [.i .i64 (checkM b fl v)] := by
 have hk := kfrom_ok b.kind
 refine fn_lim rfl rfl ?_ rfl
 unfold checkM
 by_cases v1 : v < 1
 ·simp -implicitDefEqProofs [v1]
 by_cases v3 : 3 < v
 ·simp -implicitDefEqProofs [v1, v3]
 rw [if_neg v1, if_neg v3]
 have hnil := known_nil b.kind v (by omega) (by omega)
 by_cases k0 : fromK b.kind = 0
 ·rw [if_pos (hnil.2 (.inl k0))]
  rw [k0] at hk
  simp -implicitDefEqProofs [v1, v3, hk]
 by_cases k1 : v < fromK b.kind
 ·rw [if_pos (hnil.2 (.inr k1))]
  simp -implicitDefEqProofs [v1, v3, hk, k0, k1]
 rw [if_neg (fun e => (hnil.1 e).elim k0 k1)]
 have hkn := kknown_ok b.kind v (by omega) (by omega) (by omega)
 have hpl := known_place b.kind v
 have hl8 := known_len b.kind v
 clear hnil
 generalize knownF b.kind v = sp at *
 have hnm := names39
 have h0 := mchk0 b (fldsG fl) sp (by omega) sp.length 0 [] (by omega)
 have h1 := mchk1 b (fldsG fl) (.l (sp.map spc)) namesL (by decide) names_place (insAll [] sp) namesL.length 0 (by omega)
 have h2 := mchk2 b (fldsG fl) hb hf sp (by omega) hpl sp.length 0 (by omega)
 have h3 := mchk3 sp (by omega) fl hlen fl.length 0 (by omega)
 have h4 := fcheck_ok fl hok hlen
 rw [List.drop_zero] at h0 h1 h2 h3
 simp only [mem_hasN] at h1
 have hnl : (namesL.map GV.s).length = namesL.length := List.length_map _
 have hfl := fldsG_len fl
 rw [← hfl] at h3
 generalize hX : insAll [] sp = ps at *
 have h0' : TT.lim 69 [.l (sp.map spc), .i .i64 sp.length, .i .i64 0, .l [], .i .i64 b.kind, .i .u64 b.id, .i .u64 b.min, .i .u64 b.max, .i .u64 b.chosen, .i .u64 b.flags, .i .u64 b.cost, .i .u64 b.priority, .i .u64 b.deadline, .i .u64 b.retry, .i .u64 b.epoch, .i .u64 b.base, .i .u64 b.digest, .i .u64 b.lag, .i .u64 b.code, .i .u64 b.want, .i .i64 b.remaining, .b b.allowed, .s b.name, .s b.region, .s b.note, .l (b.d.map ent), .l (b.t.map row), .l (fldsG fl)] = some [.i .i64 0, .l (encM ps)] := h0
 clear h0
 have h1' : TT.lim 71 [.l (sp.map spc), .l (namesL.map .s), .i .i64 namesL.length, .i .i64 0, .l (encM ps), .i .i64 b.kind, .i .u64 b.id, .i .u64 b.min, .i .u64 b.max, .i .u64 b.chosen, .i .u64 b.flags, .i .u64 b.cost, .i .u64 b.priority, .i .u64 b.deadline, .i .u64 b.retry, .i .u64 b.epoch, .i .u64 b.base, .i .u64 b.digest, .i .u64 b.lag, .i .u64 b.code, .i .u64 b.want, .i .i64 b.remaining, .b b.allowed, .s b.name, .s b.region, .s b.note, .l (b.d.map ent), .l (b.t.map row), .l (fldsG fl)] = _ := h1
 clear h1
 have h2' : TT.lim 72 [.l (sp.map spc), .i .i64 sp.length, .i .i64 0, .i .i64 b.kind, .i .u64 b.id, .i .u64 b.min, .i .u64 b.max, .i .u64 b.chosen, .i .u64 b.flags, .i .u64 b.cost, .i .u64 b.priority, .i .u64 b.deadline, .i .u64 b.retry, .i .u64 b.epoch, .i .u64 b.base, .i .u64 b.digest, .i .u64 b.lag, .i .u64 b.code, .i .u64 b.want, .i .i64 b.remaining, .b b.allowed, .s b.name, .s b.region, .s b.note, .l (b.d.map ent), .l (b.t.map row), .l (fldsG fl)] = _ := h2
 clear h2
 have h3' : TT.lim 99 [.l (sp.map spc), .l (fldsG fl), .i .i64 (fldsG fl).length, .i .i64 0] = _ := h3
 clear h3
 have hr : restM sp fl = if chkFL 0 0 fl ≠ 0 then chkFL 0 0 fl else if fl.any (fun f => hasTag sp f.tag) = true then 14 else 0 := rfl
 generalize (namesL.all fun n => hasN sp n || nothB b n) = A at *
 generalize mayL b sp = M at *
 generalize chkFL 0 0 fl = F at *
 generalize (fl.any fun f => hasTag sp f.tag) = W at *
 generalize restM sp fl = R at *
 generalize namesL = NL at *
 have hcommon : ∀ (x : GV), True := fun _ => trivial
 cases A with
 | false =>
  simp only [Bool.false_eq_true, if_false] at h1'
  simp -implicitDefEqProofs [v1, v3, hk, k0, k1, hkn, hnm, h0', h1']
 | true =>
 simp only [if_true] at h1'
 by_cases hM : M = 0
 rotate_left
 ·rw [if_neg hM] at h2'
  simp -implicitDefEqProofs [v1, v3, hk, k0, k1, hkn, hnm, h0', h1', h2', hM]
 rw [if_pos hM] at h2'
 rw [if_neg (by simp), if_neg (by simp [hM])]
 clear hM
 -- the rest of it
 have key : ∀ (c : Int), boundsF b = c → c ≠ 0 → True := fun _ _ _ => trivial
 unfold boundsF
 by_cases e1 : b.kind = 1
 ·have e1 := eq_true e1
  by_cases c1 : b.min < 1
  ·simp -implicitDefEqProofs [v1, v3, hk, k0, k1, hkn, hnm, h0', h1', h2', e1, c1]
  by_cases c2 : b.max < b.min
  ·simp -implicitDefEqProofs [v1, v3, hk, k0, k1, hkn, hnm, h0', h1', h2', e1, c1, c2]
  by_cases c3 : 255 < b.max
  ·simp -implicitDefEqProofs [v1, v3, hk, k0, k1, hkn, hnm, h0', h1', h2', e1, c1, c2, c3]
  simp only [e1, c1, c2, c3, if_true, if_false, ne_eq, not_true_eq_false]
  rw [hr]
  by_cases hF : F = 0
  ·subst hF
   cases W with
   | true => simp only [if_true] at h3'; simp [v1, v3, hk, k0, k1, hkn, hnm, h0', h1', h2', e1, c1, c2, c3, h4, h3']
   | false => simp only [Bool.false_eq_true, if_false] at h3'; simp [v1, v3, hk, k0, k1, hkn, hnm, h0', h1', h2', e1, c1, c2, c3, h4, h3']
  ·simp -implicitDefEqProofs [v1, v3, hk, k0, k1, hkn, hnm, h0', h1', h2', e1, c1, c2, c3, h4, hF]
 by_cases e2 : b.kind = 2
 ·have e2 := eq_true e2
  by_cases c1 : b.chosen < 1
  ·simp -implicitDefEqProofs [v1, v3, hk, k0, k1, hkn, hnm, h0', h1', h2', e1, e2, c1]
  by_cases c2 : 255 < b.chosen
  ·simp -implicitDefEqProofs [v1, v3, hk, k0, k1, hkn, hnm, h0', h1', h2', e1, e2, c1, c2]
  simp only [e1, e2, c1, c2, if_true, if_false, ne_eq, not_true_eq_false]
  rw [hr]
  by_cases hF : F = 0
  ·subst hF
   cases W with
   | true => simp only [if_true] at h3'; simp [v1, v3, hk, k0, k1, hkn, hnm, h0', h1', h2', e1, e2, c1, c2, h4, h3']
   | false => simp only [Bool.false_eq_true, if_false] at h3'; simp [v1, v3, hk, k0, k1, hkn, hnm, h0', h1', h2', e1, e2, c1, c2, h4, h3']
  ·simp -implicitDefEqProofs [v1, v3, hk, k0, k1, hkn, hnm, h0', h1', h2', e1, e2, c1, c2, h4, hF]
 by_cases e3 : b.kind = 3
 ·have e3 := eq_true e3
  by_cases c1 : b.d = []
  ·have c1 := eq_true c1
   simp -implicitDefEqProofs [v1, v3, hk, k0, k1, hkn, hnm, h0', h1', h2', e1, e2, e3, c1]
  simp only [e1, e2, e3, c1, if_true, if_false, ne_eq, not_true_eq_false]
  rw [hr]
  by_cases hF : F = 0
  ·subst hF
   cases W with
   | true => simp only [if_true] at h3'; simp [v1, v3, hk, k0, k1, hkn, hnm, h0', h1', h2', e1, e2, e3, c1, h4, h3']
   | false => simp only [Bool.false_eq_true, if_false] at h3'; simp [v1, v3, hk, k0, k1, hkn, hnm, h0', h1', h2', e1, e2, e3, c1, h4, h3']
  ·simp -implicitDefEqProofs [v1, v3, hk, k0, k1, hkn, hnm, h0', h1', h2', e1, e2, e3, c1, h4, hF]
 by_cases e5 : b.kind = 5
 ·have e5 := eq_true e5
  by_cases c1 : b.epoch < 1
  ·simp -implicitDefEqProofs [v1, v3, hk, k0, k1, hkn, hnm, h0', h1', h2', e1, e2, e3, e5, c1]
  simp only [e1, e2, e3, e5, c1, if_true, if_false, ne_eq, not_true_eq_false]
  rw [hr]
  by_cases hF : F = 0
  ·subst hF
   cases W with
   | true => simp only [if_true] at h3'; simp [v1, v3, hk, k0, k1, hkn, hnm, h0', h1', h2', e1, e2, e3, e5, c1, h4, h3']
   | false => simp only [Bool.false_eq_true, if_false] at h3'; simp [v1, v3, hk, k0, k1, hkn, hnm, h0', h1', h2', e1, e2, e3, e5, c1, h4, h3']
  ·simp -implicitDefEqProofs [v1, v3, hk, k0, k1, hkn, hnm, h0', h1', h2', e1, e2, e3, e5, c1, h4, hF]
 by_cases e6 : b.kind = 6
 ·have e6 := eq_true e6
  by_cases c1 : b.base < 1
  ·simp -implicitDefEqProofs [v1, v3, hk, k0, k1, hkn, hnm, h0', h1', h2', e1, e2, e3, e5, e6, c1]
  by_cases c2 : b.epoch ≤ b.base
  ·simp -implicitDefEqProofs [v1, v3, hk, k0, k1, hkn, hnm, h0', h1', h2', e1, e2, e3, e5, e6, c1, c2]
  simp only [e1, e2, e3, e5, e6, c1, c2, if_true, if_false, ne_eq, not_true_eq_false]
  rw [hr]
  by_cases hF : F = 0
  ·subst hF
   cases W with
   | true => simp only [if_true] at h3'; simp [v1, v3, hk, k0, k1, hkn, hnm, h0', h1', h2', e1, e2, e3, e5, e6, c1, c2, h4, h3']
   | false => simp only [Bool.false_eq_true, if_false] at h3'; simp [v1, v3, hk, k0, k1, hkn, hnm, h0', h1', h2', e1, e2, e3, e5, e6, c1, c2, h4, h3']
  ·simp -implicitDefEqProofs [v1, v3, hk, k0, k1, hkn, hnm, h0', h1', h2', e1, e2, e3, e5, e6, c1, c2, h4, hF]
 simp only [e1, e2, e3, e5, e6, if_false, ne_eq, not_true_eq_false]
 rw [hr]
 by_cases hF : F = 0
 ·subst hF
  cases W with
  | true => simp only [if_true] at h3'; simp [v1, v3, hk, k0, k1, hkn, hnm, h0', h1', h2', e1, e2, e3, e5, e6, h4, h3']
  | false => simp only [Bool.false_eq_true, if_false] at h3'; simp [v1, v3, hk, k0, k1, hkn, hnm, h0', h1', h2', e1, e2, e3, e5, e6, h4, h3']
 ·simp -implicitDefEqProofs [v1, v3, hk, k0, k1, hkn, hnm, h0', h1', h2', e1, e2, e3, e5, e6, h4, hF]
abbrev It := Int × Int × List UInt8
def ltI (a b : It) : Bool := if a.1 = b.1 then decide (a.2.1 < b.2.1) else decide (a.1 < b.1)
def leI (a b : It) : Prop := ltI b a = false
def dI : It := (0, 0, [])
abbrev at_ (h : List It) (i : Nat) : It := h.getD i dI
def par (k : Nat) : Nat := (k - 1) / 2
def Heap (h : List It) (n : Nat) : Prop := ∀ k, 0 < k → k < n → leI (at_ h (par k)) (at_ h k)
structure Sim (h L : List It) (n : Int) : Prop where
 heap : Heap h h.length
 perm : L.Perm h
 srt : L.Pairwise (fun x y => ltI x y = true)
 low : ∀ x ∈ L, x.2.1 < n
theorem Sim.len {h L : List It} {n : Int} (s : Sim h L n) : h.length = L.length := s.perm.length_eq.symm
end Y
end Go.Proofs.YtlifdeocdbjalaaGreatDoor
