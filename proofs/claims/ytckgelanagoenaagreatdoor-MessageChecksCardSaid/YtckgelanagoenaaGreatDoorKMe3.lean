/- What the trees compute: plain laws. -/
import Derived.Test.YtckgelanagoenaaGreatDoorKMe2
namespace Go.Proofs.YtckgelanagoenaaGreatDoor
open Go Go.Abs
set_option linter.unusedSimpArgs false
set_option linter.unusedVariables false
set_option maxRecDepth 100000
namespace M
structure One where
  deep : Int
  tag : Int
  typ : Int
  num : Int
  text : List UInt8
inductive Fld where
  | mk (tag typ num : Int) (text : List UInt8) (l : List Fld)
def one (x : One) : GV := .g [.i .u8 x.deep, .i .u64 x.tag, .i .i8 x.typ, .i .u64 x.num, .s x.text]
@[simp] theorem one_cells (x : One) : (one x).cells = [.i .u8 x.deep, .i .u64 x.tag, .i .i8 x.typ, .i .u64 x.num, .s x.text] := rfl
mutual
def fldG : Fld → GV
  | .mk t y n s l => .g [.i .u64 t, .i .i64 y, .i .u64 n, .s s, .l (fldsG l)]
def fldsG : List Fld → List GV
  | [] => []
  | f :: l => fldG f :: fldsG l
end
theorem fldsG_append : ∀ (a b : List Fld), fldsG (a ++ b) = fldsG a ++ fldsG b
  | [], b => rfl
  | f :: a, b => by simp only [List.cons_append, fldsG, fldsG_append a b]
theorem fldsG_len : ∀ (a : List Fld), (fldsG a).length = a.length
  | [] => rfl
  | f :: a => by simp only [fldsG, List.length_cons, fldsG_len a]
def OneOk (x : One) : Prop := 0 ≤ x.deep ∧ x.deep ≤ 255 ∧ -128 ≤ x.typ ∧ x.typ ≤ 127 ∧ 0 ≤ x.tag ∧ x.tag < 18446744073709551616 ∧ 0 ≤ x.num ∧ x.num < 18446744073709551616 ∧ x.text.length ≤ 140737488351232
def Ones (l : List One) : Prop := l.length ≤ 140737488351232 ∧ ∀ x ∈ l, OneOk x
def few8 (l : List One) : Bool := l.all (fun x => decide (x.text.length ≤ 300)) && decide (l.length ≤ 60)
theorem few8L (l : List One) (hl : l.length ≤ 140737488351232) : ∀ m i : Nat, i + m = l.length → TT.lim 14 [.l (l.map one), .i .i64 l.length, .i .i64 i] = some (if (l.drop i).all (fun x => decide (x.text.length ≤ 300)) = true then [.i .i64 1] else [.i .i64 0])
  | 0, i, hi => by
    have h0 : l.drop i = [] := List.drop_eq_nil_of_le (by omega)
    refine tree_lim rfl rfl ?_
    have h : ¬ ((i : Int) < l.length) := by omega
    simp [h, h0]
  | m + 1, i, hi => by
    have hlt : i < l.length := by omega
    have ih : TT.lim 14 [.l (l.map one), .i .i64 l.length, .i .i64 ((i : Int) + 1)] = _ := few8L l hl m (i + 1) (by omega)
    refine tree_lim rfl rfl ?_
    have h : ((i : Int) < l.length) := by omega
    have hw := wrap64 (n := (i : Int) + 1) (by omega) (by omega)
    have hda : (l.drop i).all (fun x => decide (x.text.length ≤ 300)) = (decide (l[i].text.length ≤ 300) && (l.drop (i + 1)).all (fun x => decide (x.text.length ≤ 300))) := by rw [List.drop_eq_getElem_cons hlt, List.all_cons]
    by_cases hf : (300 : Int) < (l[i].text.length : Int)
    · have : decide (l[i].text.length ≤ 300) = false := by simp; omega
      simp [-List.all_eq_true, h, hlt, hf, hda, this]
    · have : decide (l[i].text.length ≤ 300) = true := by simp; omega
      rw [hda, this, Bool.true_and]
      simp [-List.all_eq_true, h, hlt, hw, hf, ih]
theorem few8_ok (l : List One) (hl : l.length ≤ 140737488351232) : TT.lim 13 [.l (l.map one)] = some [.b (few8 l)] := by
  refine fn_lim rfl rfl ?_ rfl
  have h5 : TT.lim 14 [.l (l.map one), .i .i64 l.length, .i .i64 0] = _ := few8L l hl l.length 0 (by omega)
  rw [List.drop_zero] at h5
  cases hc : l.all (fun x => decide (x.text.length ≤ 300)) with
  | false => rw [hc] at h5; simp [-List.all_eq_true, h5, few8, hc]
  | true =>
    rw [hc] at h5; simp only [if_true] at h5
    have : (decide ((l.length : Int) ≤ 60)) = decide (l.length ≤ 60) := by rw [Bool.eq_iff_iff]; simp; omega
    simp [-List.all_eq_true, h5, few8, hc, this]
/-- What Make makes: of the first ones that are at least so deep; and the others. -/
def fromF : Nat → List One → Int → List Fld × List One
  | 0, l, _ => ([], l)
  | _ + 1, [], _ => ([], [])
  | n + 1, x :: l, deep =>
    if deep ≤ x.deep then
      let p := if x.deep = 255 then ([], l) else fromF n l (x.deep + 1)
      let q := fromF n p.2 deep
      (.mk x.tag x.typ x.num x.text p.1 :: q.1, q.2)
    else ([], x :: l)
theorem fromF_le : ∀ (n : Nat) (l : List One) (deep : Int), (fromF n l deep).1.length + (fromF n l deep).2.length ≤ l.length ∧ ∃ k, (fromF n l deep).2 = l.drop k
  | 0, l, deep => by simp only [fromF]; exact ⟨by simp, 0, rfl⟩
  | n + 1, [], deep => by simp only [fromF]; exact ⟨by simp, 0, rfl⟩
  | n + 1, x :: l, deep => by
    simp only [fromF]
    split
    · by_cases hx : x.deep = 255
      · rw [if_pos hx]
        obtain ⟨h1, k, h2⟩ := fromF_le n l deep
        refine ⟨by simp only [List.length_cons]; omega, k + 1, by simp only [h2, List.drop_succ_cons]⟩
      · rw [if_neg hx]
        obtain ⟨h1, k, h2⟩ := fromF_le n l (x.deep + 1)
        obtain ⟨h3, k', h4⟩ := fromF_le n (fromF n l (x.deep + 1)).2 deep
        refine ⟨by simp only [List.length_cons]; omega, k + k' + 1, ?_⟩
        simp only [h4, List.drop_succ_cons]
        rw [h2, List.drop_drop]
    · exact ⟨by simp, 0, rfl⟩
def fldE (x : One) (l : List Fld) : GV := .g [.i .u64 x.tag, .i .i64 x.typ, .i .u64 x.num, .s x.text, .l (fldsG l)]
theorem from_ok : ∀ (n : Nat) (l : List One) (deep : Int) (acc : List Fld), l.length < n → acc.length + l.length ≤ 1000000 → (∀ x ∈ l, OneOk x) →
    TT.lim 18 [.l (l.map one), .i .u8 deep, .l (fldsG acc)] = some [.i .i64 0, .l ((fromF n l deep).2.map one), .l (fldsG (acc ++ (fromF n l deep).1))]
  | 0, l, deep, acc, hn, _, _ => by omega
  | n + 1, [], deep, acc, hn, hb, hl => by
    refine tree_lim rfl rfl ?_
    simp [fromF]
  | n + 1, x :: l, deep, acc, hn, hb, hl => by
    have hx := hl x (by simp)
    have hl' : ∀ y ∈ l, OneOk y := fun y hy => hl y (by simp [hy])
    simp only [List.length_cons] at hn hb
    have hw := wrap64 (n := x.typ) (by have := hx.2.2.1; omega) (by have := hx.2.2.2.1; omega)
    have hb2 : 2 * ((fldsG acc).length + 1) * 64 ≤ 281474976710656 := by rw [fldsG_len]; omega
    have hb3 : (fldsG acc).length ≤ 281474976710655 := by rw [fldsG_len]; omega
    have hcast : ((l.length : Int) + 1).toNat = l.length + 1 := by omega
    have h1 : (1 : Int) ≤ (l.length : Int) + 1 := by omega
    have htake : List.take l.length (l.map one) = l.map one := List.take_of_length_le (by simp)
    have hall : ∀ y ∈ l.map one, y.cells.length = 5 := by
      intro y hy; obtain ⟨z, _, rfl⟩ := List.mem_map.1 hy; rfl
    refine tree_lim rfl rfl ?_
    by_cases hd : deep ≤ x.deep
    · by_cases h255 : x.deep = 255
      · have ih := from_ok n l deep (acc ++ [.mk x.tag x.typ x.num x.text []]) (by omega) (by simp; omega) hl'
        have e : fromF (n + 1) (x :: l) deep = (.mk x.tag x.typ x.num x.text [] :: (fromF n l deep).1, (fromF n l deep).2) := by
          simp only [fromF, if_pos hd, if_pos h255]
        rw [e]
        rw [List.append_assoc, fldsG_append] at ih
        have e2 : fldsG [Fld.mk x.tag x.typ x.num x.text []] = [fldE x []] := rfl
        rw [e2] at ih
        have hel : (fldE x []).elemOk 5 = true := rfl
        have hfold : GV.g [.i .u64 x.tag, .i .i64 x.typ, .i .u64 x.num, .s x.text, .l []] = fldE x [] := rfl
        have h0 : (0 : Int) < (l.length : Int) + 1 := by omega
        have hd2 : deep ≤ 255 := by omega
        simp [hd2, h255, hw, hfold, hel, hb2, hb3, hall, h0, h1, htake, hcast, ih]
      · have hf := fromF_le n l (x.deep + 1)
        have ih1 := from_ok n l (x.deep + 1) [] (by omega) (by simp; omega) hl'
        have hk : TT.lim 17 [.l (l.map one), .i .u8 (x.deep + 1)] = some [.l (fldsG (fromF n l (x.deep + 1)).1), .l ((fromF n l (x.deep + 1)).2.map one)] := by
          refine fn_lim rfl rfl ?_ rfl
          have ih1' : TT.lim 18 [.l (l.map one), .i .u8 (x.deep + 1), .l []] = _ := ih1
          simp [ih1']
        have ih2 := from_ok n (fromF n l (x.deep + 1)).2 deep (acc ++ [.mk x.tag x.typ x.num x.text (fromF n l (x.deep + 1)).1]) (by omega) (by simp; omega) (fun y hy => by
          obtain ⟨_, k, e⟩ := hf
          rw [e] at hy
          exact hl' y (List.mem_of_mem_drop hy))
        have e : fromF (n + 1) (x :: l) deep = (.mk x.tag x.typ x.num x.text (fromF n l (x.deep + 1)).1 :: (fromF n (fromF n l (x.deep + 1)).2 deep).1, (fromF n (fromF n l (x.deep + 1)).2 deep).2) := by
          simp only [fromF, if_pos hd, if_neg h255]
        rw [e]
        rw [List.append_assoc, fldsG_append] at ih2
        generalize fromF n l (x.deep + 1) = p at *
        obtain ⟨p1, p2⟩ := p
        simp only at *
        have e2 : fldsG [Fld.mk x.tag x.typ x.num x.text p1] = [fldE x p1] := rfl
        rw [e2] at ih2
        have hel : (fldE x p1).elemOk 5 = true := rfl
        have hfold : GV.g [.i .u64 x.tag, .i .i64 x.typ, .i .u64 x.num, .s x.text, .l (fldsG p1)] = fldE x p1 := rfl
        have h0 : (0 : Int) < (l.length : Int) + 1 := by omega
        have hw8 := wrapu8 (n := x.deep + 1) (by have := hx.1; omega) (by have := hx.2.1; omega)
        simp [hd, h255, hw, hw8, hk, hfold, hel, hb2, hb3, hall, h0, h1, htake, hcast, ih2]
    · have e : fromF (n + 1) (x :: l) deep = ([], x :: l) := by simp only [fromF, if_neg hd]
      rw [e]
      have h0 : (0 : Int) < (l.length : Int) + 1 := by omega
      simp [hd, h0]
def make8 (l : List One) : List Fld := (fromF (l.length + 1) l 0).1
theorem make8_ok (l : List One) (hl : ∀ x ∈ l, OneOk x) (h60 : l.length ≤ 1000000) : TT.lim 16 [.l (l.map one)] = some [.l (fldsG (make8 l))] := by
  have hk : TT.lim 17 [.l (l.map one), .i .u8 0] = some [.l (fldsG (make8 l)), .l ((fromF (l.length + 1) l 0).2.map one)] := by
    refine fn_lim rfl rfl ?_ rfl
    have ih1 : TT.lim 18 [.l (l.map one), .i .u8 0, .l []] = _ := from_ok (l.length + 1) l 0 [] (by omega) (by simp; omega) hl
    simp [ih1, make8]
  refine fn_lim rfl rfl ?_ rfl
  simp [hk]
structure Bdy where
  kind : Int
  id : Int
  min : Int
  max : Int
  chosen : Int
  flags : Int
  cost : Int
  priority : Int
  deadline : Int
  retry : Int
  epoch : Int
  base : Int
  digest : Int
  lag : Int
  code : Int
  want : Int
  remaining : Int
  allowed : Bool
  name : List UInt8
  region : List UInt8
  note : List UInt8
  d : List Ent
  t : List Row
/-- A message: what it has, and its rest. -/
def msgG (b : Bdy) (r : List GV) : GV := .g [.i .i64 b.kind, .i .u64 b.id, .i .u64 b.min, .i .u64 b.max, .i .u64 b.chosen, .i .u64 b.flags, .i .u64 b.cost, .i .u64 b.priority, .i .u64 b.deadline, .i .u64 b.retry, .i .u64 b.epoch, .i .u64 b.base, .i .u64 b.digest, .i .u64 b.lag, .i .u64 b.code, .i .u64 b.want, .i .i64 b.remaining, .b b.allowed, .s b.name, .s b.region, .s b.note, .l (b.d.map ent), .l (b.t.map row), .l r]
theorem msgG_fold (b : Bdy) (r : List GV) : GV.g [.i .i64 b.kind, .i .u64 b.id, .i .u64 b.min, .i .u64 b.max, .i .u64 b.chosen, .i .u64 b.flags, .i .u64 b.cost, .i .u64 b.priority, .i .u64 b.deadline, .i .u64 b.retry, .i .u64 b.epoch, .i .u64 b.base, .i .u64 b.digest, .i .u64 b.lag, .i .u64 b.code, .i .u64 b.want, .i .i64 b.remaining, .b b.allowed, .s b.name, .s b.region, .s b.note, .l (b.d.map ent), .l (b.t.map row), .l r] = msgG b r := rfl
@[simp] theorem msgG_cells (b : Bdy) (r : List GV) : (msgG b r).cells = [.i .i64 b.kind, .i .u64 b.id, .i .u64 b.min, .i .u64 b.max, .i .u64 b.chosen, .i .u64 b.flags, .i .u64 b.cost, .i .u64 b.priority, .i .u64 b.deadline, .i .u64 b.retry, .i .u64 b.epoch, .i .u64 b.base, .i .u64 b.digest, .i .u64 b.lag, .i .u64 b.code, .i .u64 b.want, .i .i64 b.remaining, .b b.allowed, .s b.name, .s b.region, .s b.note, .l (b.d.map ent), .l (b.t.map row), .l r] := rfl
structure BdyOk (b : Bdy) : Prop where
  kind : -9223372036854775808 ≤ b.kind ∧ b.kind ≤ 9223372036854775807
  id : 0 ≤ b.id ∧ b.id < 18446744073709551616
  min : 0 ≤ b.min ∧ b.min < 18446744073709551616
  max : 0 ≤ b.max ∧ b.max < 18446744073709551616
  chosen : 0 ≤ b.chosen ∧ b.chosen < 18446744073709551616
  flags : 0 ≤ b.flags ∧ b.flags < 18446744073709551616
  cost : 0 ≤ b.cost ∧ b.cost < 18446744073709551616
  priority : 0 ≤ b.priority ∧ b.priority < 18446744073709551616
  deadline : 0 ≤ b.deadline ∧ b.deadline < 18446744073709551616
  retry : 0 ≤ b.retry ∧ b.retry < 18446744073709551616
  epoch : 0 ≤ b.epoch ∧ b.epoch < 18446744073709551616
  base : 0 ≤ b.base ∧ b.base < 18446744073709551616
  digest : 0 ≤ b.digest ∧ b.digest < 18446744073709551616
  lag : 0 ≤ b.lag ∧ b.lag < 18446744073709551616
  code : 0 ≤ b.code ∧ b.code < 18446744073709551616
  want : 0 ≤ b.want ∧ b.want < 18446744073709551616
  remaining : -9223372036854775808 ≤ b.remaining ∧ b.remaining ≤ 9223372036854775807
  name : b.name.length ≤ 140737488351232
  region : b.region.length ≤ 140737488351232
  note : b.note.length ≤ 140737488351232
  d : Ents b.d
  t : Rows b.t
def few18 (b : Bdy) (l : List One) : Bool := decide (b.name.length ≤ 600) && (decide (b.region.length ≤ 600) && (decide (b.note.length ≤ 600) && (few12 b.d && (few13 b.t && few8 l))))
theorem few18_ok (b : Bdy) (l : List One) (hb : BdyOk b) (hl : Ones l) : TT.lim 1 [msgG b (l.map one)] = some [.b (few18 b l)] := by
  have h12 := few4 b.d hb.d
  have h13 := few2 b.t hb.t
  have h8 := few8_ok l hl.1
  have e1 : (decide ((b.name.length : Int) ≤ 600)) = decide (b.name.length ≤ 600) := by rw [Bool.eq_iff_iff]; simp; omega
  have e2 : (decide ((b.region.length : Int) ≤ 600)) = decide (b.region.length ≤ 600) := by rw [Bool.eq_iff_iff]; simp; omega
  have e3 : (decide ((b.note.length : Int) ≤ 600)) = decide (b.note.length ≤ 600) := by rw [Bool.eq_iff_iff]; simp; omega
  refine fn_lim rfl rfl ?_ rfl
  unfold few18
  generalize few12 b.d = c1 at *
  generalize few13 b.t = c2 at *
  generalize few8 l = c3 at *
  cases f1 : decide (b.name.length ≤ 600) with
  | false => rw [f1] at e1; simp at e1; have e1' : ¬ ((b.name.length : Int) ≤ 600) := by omega
             simp [e1']
  | true =>
  rw [f1] at e1; have e1' : ((b.name.length : Int) ≤ 600) := by simpa using e1
  cases f2 : decide (b.region.length ≤ 600) with
  | false => rw [f2] at e2; simp at e2; have e2' : ¬ ((b.region.length : Int) ≤ 600) := by omega
             simp [e1', e2']
  | true =>
  rw [f2] at e2; have e2' : ((b.region.length : Int) ≤ 600) := by simpa using e2
  cases f3 : decide (b.note.length ≤ 600) with
  | false => rw [f3] at e3; simp at e3; have e3' : ¬ ((b.note.length : Int) ≤ 600) := by omega
             simp [e1', e2', e3']
  | true =>
  rw [f3] at e3; have e3' : ((b.note.length : Int) ≤ 600) := by simpa using e3
  cases c1 <;> cases c2 <;> simp [e1', e2', e3', h12, h13, h8]
theorem make18_ok (b : Bdy) (l : List One) (hl : Ones l) (hf : few8 l = true) : TT.lim 15 [msgG b (l.map one)] = some [msgG b (fldsG (make8 l))] := by
  have h8 : l.length ≤ 60 := by unfold few8 at hf; rw [Bool.and_eq_true, decide_eq_true_iff] at hf; exact hf.2
  have hm := make8_ok l hl.2 (by omega)
  refine fn_lim rfl rfl ?_ rfl
  simp [hm, msgG_fold]
theorem has_int {k : IntKind} {g : GV} (h : (GTy.int k).has g) : ∃ n, g = .i k n ∧ k.min ≤ n ∧ n ≤ k.max := by
  simp only [GTy.has] at h
  exact h
theorem has_i64 {g : GV} (h : (GTy.int .i64).has g) : ∃ n, g = .i .i64 n ∧ -9223372036854775808 ≤ n ∧ n ≤ 9223372036854775807 := by
  obtain ⟨n, rfl, h1, h2⟩ := has_int h
  exact ⟨n, rfl, by simpa [IntKind.min, IntKind.signed, IntKind.bits] using h1, by simpa [IntKind.max, IntKind.signed, IntKind.bits] using h2⟩
theorem hasBool {g : GV} (h : GTy.bool.has g) : ∃ b, g = .b b := by simpa only [GTy.has] using h
theorem entl_of {g : GV} (h : (GTy.list true [.str, .str]).has g) : ∃ l : List Ent, Ents l ∧ g = .l (l.map ent) := by
  obtain ⟨xs, rfl, h1, h2⟩ := has_list h
  obtain ⟨rs, h3, rfl⟩ := list_map (f := ent) (p := fun r : Ent => r.1.length ≤ 140737488351232 ∧ r.2.length ≤ 140737488351232) fun x hx => by
    obtain ⟨h4, h5⟩ := h2 x hx
    cases x <;> simp [GV.scalar] at h5
    next cs =>
    simp only [cells_g] at h4
    obtain ⟨a, r, rfl, ha, h4⟩ := hasL_cons h4
    obtain ⟨c, r, rfl, hc, h4⟩ := hasL_cons h4
    obtain rfl := hasL_nil h4
    obtain ⟨u, rfl, hu⟩ := has_str ha
    obtain ⟨v, rfl, hv⟩ := has_str hc
    exact ⟨(u, v), ⟨hu, hv⟩, rfl⟩
  exact ⟨rs, ⟨by rw [List.length_map] at h1; exact h1, h3⟩, rfl⟩
theorem ones_of {g : GV} (h : (GTy.list true [.int .u8, .int .u64, .int .i8, .int .u64, .str]).has g) : ∃ l : List One, Ones l ∧ g = .l (l.map one) := by
  obtain ⟨xs, rfl, h1, h2⟩ := has_list h
  obtain ⟨rs, h3, rfl⟩ := list_map (f := one) (p := OneOk) fun x hx => by
    obtain ⟨h4, h5⟩ := h2 x hx
    cases x <;> simp [GV.scalar] at h5
    next cs =>
    simp only [cells_g] at h4
    obtain ⟨a, r, rfl, ha, h4⟩ := hasL_cons h4
    obtain ⟨c, r, rfl, hc, h4⟩ := hasL_cons h4
    obtain ⟨e, r, rfl, he, h4⟩ := hasL_cons h4
    obtain ⟨f, r, rfl, hf, h4⟩ := hasL_cons h4
    obtain ⟨s, r, rfl, hs, h4⟩ := hasL_cons h4
    obtain rfl := hasL_nil h4
    obtain ⟨a, rfl, a1, a2⟩ := has_int ha
    obtain ⟨c, rfl, c1, c2⟩ := has_u64 hc
    obtain ⟨e, rfl, e1, e2⟩ := has_int he
    obtain ⟨f, rfl, f1, f2⟩ := has_u64 hf
    obtain ⟨s, rfl, hs0⟩ := has_str hs
    have a1' : 0 ≤ a := by simpa [IntKind.min, IntKind.signed] using a1
    have a2' : a ≤ 255 := by simpa [IntKind.max, IntKind.signed, IntKind.bits] using a2
    have e1' : -128 ≤ e := by simpa [IntKind.min, IntKind.signed, IntKind.bits] using e1
    have e2' : e ≤ 127 := by simpa [IntKind.max, IntKind.signed, IntKind.bits] using e2
    exact ⟨⟨a, c, e, f, s⟩, ⟨a1', a2', e1', e2', c1, c2, f1, f2, hs0⟩, rfl⟩
  exact ⟨rs, ⟨by rw [List.length_map] at h1; exact h1, h3⟩, rfl⟩
abbrev rawTy : List GTy := [.int .i64, .int .u64, .int .u64, .int .u64, .int .u64, .int .u64, .int .u64, .int .u64, .int .u64, .int .u64, .int .u64, .int .u64, .int .u64, .int .u64, .int .u64, .int .u64, .int .i64, .bool, .str, .str, .str, .list true [.str, .str], .list true [.list true [.str, .str], .int .u64], .list true [.int .u8, .int .u64, .int .i8, .int .u64, .str]]
theorem raw_of {cs : List GV} (h : GTy.hasL rawTy cs) : ∃ b l, BdyOk b ∧ Ones l ∧ GV.g cs = msgG b (l.map one) := by
  obtain ⟨_, _, rfl, h1, g0⟩ := hasL_cons h; obtain ⟨x0, rfl, k0⟩ := has_i64 h1
  obtain ⟨_, _, rfl, h1, g1⟩ := hasL_cons g0; obtain ⟨x1, rfl, k1⟩ := has_u64 h1
  obtain ⟨_, _, rfl, h1, g2⟩ := hasL_cons g1; obtain ⟨x2, rfl, k2⟩ := has_u64 h1
  obtain ⟨_, _, rfl, h1, g3⟩ := hasL_cons g2; obtain ⟨x3, rfl, k3⟩ := has_u64 h1
  obtain ⟨_, _, rfl, h1, g4⟩ := hasL_cons g3; obtain ⟨x4, rfl, k4⟩ := has_u64 h1
  obtain ⟨_, _, rfl, h1, g5⟩ := hasL_cons g4; obtain ⟨x5, rfl, k5⟩ := has_u64 h1
  obtain ⟨_, _, rfl, h1, g6⟩ := hasL_cons g5; obtain ⟨x6, rfl, k6⟩ := has_u64 h1
  obtain ⟨_, _, rfl, h1, g7⟩ := hasL_cons g6; obtain ⟨x7, rfl, k7⟩ := has_u64 h1
  obtain ⟨_, _, rfl, h1, g8⟩ := hasL_cons g7; obtain ⟨x8, rfl, k8⟩ := has_u64 h1
  obtain ⟨_, _, rfl, h1, g9⟩ := hasL_cons g8; obtain ⟨x9, rfl, k9⟩ := has_u64 h1
  obtain ⟨_, _, rfl, h1, g10⟩ := hasL_cons g9; obtain ⟨x10, rfl, k10⟩ := has_u64 h1
  obtain ⟨_, _, rfl, h1, g11⟩ := hasL_cons g10; obtain ⟨x11, rfl, k11⟩ := has_u64 h1
  obtain ⟨_, _, rfl, h1, g12⟩ := hasL_cons g11; obtain ⟨x12, rfl, k12⟩ := has_u64 h1
  obtain ⟨_, _, rfl, h1, g13⟩ := hasL_cons g12; obtain ⟨x13, rfl, k13⟩ := has_u64 h1
  obtain ⟨_, _, rfl, h1, g14⟩ := hasL_cons g13; obtain ⟨x14, rfl, k14⟩ := has_u64 h1
  obtain ⟨_, _, rfl, h1, g15⟩ := hasL_cons g14; obtain ⟨x15, rfl, k15⟩ := has_u64 h1
  obtain ⟨_, _, rfl, h1, g16⟩ := hasL_cons g15; obtain ⟨x16, rfl, k16⟩ := has_i64 h1
  obtain ⟨_, _, rfl, h1, g17⟩ := hasL_cons g16; obtain ⟨x17, rfl⟩ := hasBool h1
  obtain ⟨_, _, rfl, h1, g18⟩ := hasL_cons g17; obtain ⟨x18, rfl, k18⟩ := has_str h1
  obtain ⟨_, _, rfl, h1, g19⟩ := hasL_cons g18; obtain ⟨x19, rfl, k19⟩ := has_str h1
  obtain ⟨_, _, rfl, h1, g20⟩ := hasL_cons g19; obtain ⟨x20, rfl, k20⟩ := has_str h1
  obtain ⟨_, _, rfl, h1, g21⟩ := hasL_cons g20; obtain ⟨x21, k21, rfl⟩ := entl_of h1
  obtain ⟨_, _, rfl, h1, g22⟩ := hasL_cons g21; obtain ⟨x22, k22, rfl⟩ := rows_of h1
  obtain ⟨_, _, rfl, h1, g23⟩ := hasL_cons g22; obtain ⟨x23, k23, rfl⟩ := ones_of h1
  obtain rfl := hasL_nil g23
  exact ⟨⟨x0, x1, x2, x3, x4, x5, x6, x7, x8, x9, x10, x11, x12, x13, x14, x15, x16, x17, x18, x19, x20, x21, x22⟩, x23, ⟨k0, k1, k2, k3, k4, k5, k6, k7, k8, k9, k10, k11, k12, k13, k14, k15, k16, k18, k19, k20, k21, k22⟩, k23, rfl⟩
structure Spc where
  tag : Int
  use : Int
  from_ : Int
  name : List UInt8
def spc (s : Spc) : GV := .g [.i .u64 s.tag, .i .i64 s.use, .i .i64 s.from_, .s s.name]
@[simp] theorem spc_cells (s : Spc) : (spc s).cells = [.i .u64 s.tag, .i .i64 s.use, .i .i64 s.from_, .s s.name] := rfl
theorem spc_fold (s : Spc) : GV.g [.i .u64 s.tag, .i .i64 s.use, .i .i64 s.from_, .s s.name] = spc s := rfl
def sp1 : List Spc := [⟨1, 0, 1, [109, 105, 110]⟩, ⟨2, 0, 1, [109, 97, 120]⟩, ⟨3, 3, 1, [110, 97, 109, 101]⟩, ⟨4, 3, 2, [114, 101, 103, 105, 111, 110]⟩, ⟨5, 0, 3, [102, 108, 97, 103, 115]⟩]
def sp2 : List Spc := [⟨1, 0, 1, [99, 104, 111, 115, 101, 110]⟩, ⟨2, 3, 1, [110, 97, 109, 101]⟩, ⟨3, 3, 2, [114, 101, 103, 105, 111, 110]⟩]
def sp3 : List Spc := [⟨1, 0, 1, [105, 100]⟩, ⟨2, 4, 1, [100, 101, 115, 99, 114]⟩, ⟨3, 0, 1, [99, 111, 115, 116]⟩, ⟨4, 0, 2, [112, 114, 105, 111, 114, 105, 116, 121]⟩, ⟨5, 0, 3, [100, 101, 97, 100, 108, 105, 110, 101]⟩]
def sp4 : List Spc := [⟨1, 0, 1, [105, 100]⟩, ⟨2, 1, 1, [97, 108, 108, 111, 119, 101, 100]⟩, ⟨3, 2, 1, [114, 101, 109, 97, 105, 110, 105, 110, 103]⟩, ⟨4, 0, 2, [114, 101, 116, 114, 121]⟩, ⟨5, 3, 3, [110, 111, 116, 101]⟩]
def sp5 : List Spc := [⟨1, 0, 1, [101, 112, 111, 99, 104]⟩, ⟨2, 5, 1, [116, 97, 98, 108, 101]⟩, ⟨3, 3, 2, [114, 101, 103, 105, 111, 110]⟩, ⟨4, 0, 3, [100, 105, 103, 101, 115, 116]⟩]
def sp6 : List Spc := [⟨1, 0, 2, [98, 97, 115, 101]⟩, ⟨2, 0, 2, [101, 112, 111, 99, 104]⟩, ⟨3, 5, 2, [116, 97, 98, 108, 101]⟩, ⟨4, 3, 2, [114, 101, 103, 105, 111, 110]⟩, ⟨5, 0, 3, [100, 105, 103, 101, 115, 116]⟩]
def sp7 : List Spc := [⟨1, 0, 1, [101, 112, 111, 99, 104]⟩, ⟨2, 0, 3, [108, 97, 103]⟩]
def sp8 : List Spc := [⟨1, 0, 1, [101, 112, 111, 99, 104]⟩, ⟨2, 0, 1, [99, 111, 100, 101]⟩, ⟨3, 0, 2, [119, 97, 110, 116]⟩, ⟨4, 3, 3, [110, 111, 116, 101]⟩]
def specsF (k : Int) : List Spc := if k = 1 then sp1 else if k = 2 then sp2 else if k = 3 then sp3 else if k = 4 then sp4 else if k = 5 then sp5 else if k = 6 then sp6 else if k = 7 then sp7 else if k = 8 then sp8 else []
def fromK (k : Int) : Int := if k = 1 then 1 else if k = 2 then 1 else if k = 3 then 1 else if k = 4 then 1 else if k = 5 then 1 else if k = 6 then 2 else if k = 7 then 1 else if k = 8 then 1 else 0
def knownF (k v : Int) : List Spc := (specsF k).filter fun s => decide (s.from_ ≤ v)
theorem hello_sp : TT.lim 29 [] = some [.l (sp1.map spc)] := by refine fn_lim rfl rfl ?_ rfl; simp [sp1, spc]
theorem helloAck_sp : TT.lim 31 [] = some [.l (sp2.map spc)] := by refine fn_lim rfl rfl ?_ rfl; simp [sp2, spc]
theorem checkRequest_sp : TT.lim 32 [] = some [.l (sp3.map spc)] := by refine fn_lim rfl rfl ?_ rfl; simp [sp3, spc]
theorem checkResponse_sp : TT.lim 33 [] = some [.l (sp4.map spc)] := by refine fn_lim rfl rfl ?_ rfl; simp [sp4, spc]
theorem fullSnapshot_sp : TT.lim 34 [] = some [.l (sp5.map spc)] := by refine fn_lim rfl rfl ?_ rfl; simp [sp5, spc]
theorem deltaSnapshot_sp : TT.lim 35 [] = some [.l (sp6.map spc)] := by refine fn_lim rfl rfl ?_ rfl; simp [sp6, spc]
theorem ack_sp : TT.lim 36 [] = some [.l (sp7.map spc)] := by refine fn_lim rfl rfl ?_ rfl; simp [sp7, spc]
theorem reject_sp : TT.lim 37 [] = some [.l (sp8.map spc)] := by refine fn_lim rfl rfl ?_ rfl; simp [sp8, spc]
theorem kfrom_ok (k : Int) : TT.lim 27 [.i .i64 k] = some [.i .i64 (fromK k)] := by
  refine fn_lim rfl rfl ?_ rfl
  unfold fromK
  by_cases h1 : k = 1
  · simp [h1]
  by_cases h2 : k = 2
  · simp [h2]
  by_cases h3 : k = 3
  · simp [h3]
  by_cases h4 : k = 4
  · simp [h4]
  by_cases h5 : k = 5
  · simp [h5]
  by_cases h6 : k = 6
  · simp [h6]
  by_cases h7 : k = 7
  · simp [h7]
  by_cases h8 : k = 8
  · simp [h8]
  simp [h1, h2, h3, h4, h5, h6, h7, h8]
theorem kknownL (v : Int) (l : List Spc) (hl : l.length ≤ 8) : ∀ (m i : Nat) (acc : List Spc), i + m = l.length → acc.length ≤ i →
    TT.lim 30 [.i .i64 v, .l (acc.map spc), .l (l.map spc), .i .i64 l.length, .i .i64 i] = some [.i .i64 0, .l ((acc ++ (l.drop i).filter fun s => decide (s.from_ ≤ v)).map spc)]
  | 0, i, acc, hi, ha => by
    have h0 : l.drop i = [] := List.drop_eq_nil_of_le (by omega)
    refine tree_lim rfl rfl ?_
    have h : ¬ ((i : Int) < l.length) := by omega
    simp [h, h0]
  | m + 1, i, acc, hi, ha => by
    have hlt : i < l.length := by omega
    have hd := List.drop_eq_getElem_cons hlt
    refine tree_lim rfl rfl ?_
    have h : ((i : Int) < l.length) := by omega
    have hw := wrap64 (n := (i : Int) + 1) (by omega) (by omega)
    have hb1 : 2 * (acc.length + 1) * 40 ≤ 281474976710656 := by omega
    have hb2 : acc.length ≤ 281474976710655 := by omega
    have hok : (spc l[i]).elemOk 4 = true := rfl
    have hcast : ((i : Int) + 1) = ((i + 1 : Nat) : Int) := by omega
    by_cases hf : l[i].from_ ≤ v
    · have ih := kknownL v l hl m (i + 1) (acc ++ [l[i]]) (by omega) (by simp; omega)
      rw [← hcast, List.map_append] at ih
      simp only [List.map_cons, List.map_nil] at ih
      simp [-List.getElem_cons_drop, h, hlt, hf, hw, spc_fold, hb1, hb2, hok, ih, hd]
    · have ih := kknownL v l hl m (i + 1) acc (by omega) (by omega)
      rw [← hcast] at ih
      simp [-List.getElem_cons_drop, h, hlt, hf, hw, ih, hd]
theorem sp_len (k : Int) : (specsF k).length ≤ 8 := by
  unfold specsF
  repeat' split
  all_goals (first | (unfold sp1; decide) | (unfold sp2; decide) | (unfold sp3; decide) | (unfold sp4; decide) | (unfold sp5; decide) | (unfold sp6; decide) | (unfold sp7; decide) | (unfold sp8; decide) | decide)
theorem kknown1 (v : Int) (l : List Spc) (hl : l.length ≤ 8) : TT.lim 30 [.i .i64 v, .l [], .l (l.map spc), .i .i64 l.length, .i .i64 0] = some [.i .i64 0, .l ((l.filter fun s => decide (s.from_ ≤ v)).map spc)] := by
  have := kknownL v l hl l.length 0 [] (by omega) (by simp)
  simpa using this
theorem kknown_ok (k v : Int) (h1 : 1 ≤ v) (h3 : v ≤ 3) (hk : fromK k ≤ v) : TT.lim 28 [.i .i64 k, .i .i64 v] = some [.l ((knownF k v).map spc)] := by
  have a1 : ¬ v < 1 := by omega
  have a3 : ¬ 3 < v := by omega
  unfold knownF specsF
  unfold fromK at hk
  have g1 := kknown1 v sp1 (by decide)
  have g2 := kknown1 v sp2 (by decide)
  have g3 := kknown1 v sp3 (by decide)
  have g4 := kknown1 v sp4 (by decide)
  have g5 := kknown1 v sp5 (by decide)
  have g6 := kknown1 v sp6 (by decide)
  have g7 := kknown1 v sp7 (by decide)
  have g8 := kknown1 v sp8 (by decide)
  have e1 := hello_sp
  have e2 := helloAck_sp
  have e3 := checkRequest_sp
  have e4 := checkResponse_sp
  have e5 := fullSnapshot_sp
  have e6 := deltaSnapshot_sp
  have e7 := ack_sp
  have e8 := reject_sp
  generalize sp1 = p1 at *
  generalize sp2 = p2 at *
  generalize sp3 = p3 at *
  generalize sp4 = p4 at *
  generalize sp5 = p5 at *
  generalize sp6 = p6 at *
  generalize sp7 = p7 at *
  generalize sp8 = p8 at *
  refine fn_lim rfl rfl ?_ rfl
  by_cases k1 : k = 1
  · simp [k1, a1, a3, e1, g1]
  by_cases k2 : k = 2
  · simp [k2, a1, a3, e2, g2]
  by_cases k3 : k = 3
  · simp [k3, a1, a3, e3, g3]
  by_cases k4 : k = 4
  · simp [k4, a1, a3, e4, g4]
  by_cases k5 : k = 5
  · simp [k5, a1, a3, e5, g5]
  by_cases k6 : k = 6
  · have a2 : ¬ v < 2 := by subst k6; simpa using hk
    simp [k6, a1, a2, a3, e6, g6]
  by_cases k7 : k = 7
  · simp [k7, a1, a3, e7, g7]
  by_cases k8 : k = 8
  · simp [k8, a1, a3, e8, g8]
  simp [k1, k2, k3, k4, k5, k6, k7, k8]
theorem rspecs_ok (k : Int) : TT.lim 81 [.i .i64 k] = some [.l ((specsF k).map spc)] := by
  unfold specsF
  refine fn_lim rfl rfl ?_ rfl
  by_cases k1 : k = 1
  · simp [k1, sp1, spc]
  by_cases k2 : k = 2
  · simp [k2, sp2, spc]
  by_cases k3 : k = 3
  · simp [k3, sp3, spc]
  by_cases k4 : k = 4
  · simp [k4, sp4, spc]
  by_cases k5 : k = 5
  · simp [k5, sp5, spc]
  by_cases k6 : k = 6
  · simp [k6, sp6, spc]
  by_cases k7 : k = 7
  · simp [k7, sp7, spc]
  by_cases k8 : k = 8
  · simp [k8, sp8, spc]
  simp [k1, k2, k3, k4, k5, k6, k7, k8]
theorem rknownL (v : Int) (h3 : v ≤ 3) (l : List Spc) (hl : l.length ≤ 8) : ∀ (m i : Nat) (acc : List Spc), i + m = l.length → acc.length ≤ i →
    TT.lim 82 [.i .i64 v, .l (acc.map spc), .l (l.map spc), .i .i64 l.length, .i .i64 i] = some [.i .i64 0, .l ((acc ++ (l.drop i).filter fun s => decide (s.from_ ≤ v)).map spc)]
  | 0, i, acc, hi, ha => by
    have h0 : l.drop i = [] := List.drop_eq_nil_of_le (by omega)
    refine tree_lim rfl rfl ?_
    have h : ¬ ((i : Int) < l.length) := by omega
    simp [h, h0]
  | m + 1, i, acc, hi, ha => by
    have hlt : i < l.length := by omega
    have hd := List.drop_eq_getElem_cons hlt
    refine tree_lim rfl rfl ?_
    have h : ((i : Int) < l.length) := by omega
    have hw := wrap64 (n := (i : Int) + 1) (by omega) (by omega)
    have hb1 : 2 * (acc.length + 1) * 40 ≤ 281474976710656 := by omega
    have hb2 : acc.length ≤ 281474976710655 := by omega
    have hok : (spc l[i]).elemOk 4 = true := rfl
    have hcast : ((i : Int) + 1) = ((i + 1 : Nat) : Int) := by omega
    by_cases hf : l[i].from_ ≤ v
    · have ih := rknownL v h3 l hl m (i + 1) (acc ++ [l[i]]) (by omega) (by simp; omega)
      rw [← hcast, List.map_append] at ih
      simp only [List.map_cons, List.map_nil] at ih
      simp [-List.getElem_cons_drop, h, hlt, h3, hf, hw, spc_fold, hb1, hb2, hok, ih, hd]
    · have ih := rknownL v h3 l hl m (i + 1) acc (by omega) (by omega)
      rw [← hcast] at ih
      simp [-List.getElem_cons_drop, h, hlt, h3, hf, hw, ih, hd]
theorem rknown_ok (k v : Int) (h3 : v ≤ 3) : TT.lim 80 [.i .i64 k, .i .i64 v] = some [.l ((knownF k v).map spc)] := by
  have h0 := rspecs_ok k
  have h1 := rknownL v h3 (specsF k) (sp_len k) (specsF k).length 0 [] (by omega) (by simp)
  unfold knownF
  generalize specsF k = l at *
  have h1' : TT.lim 82 [.i .i64 v, .l [], .l (l.map spc), .i .i64 l.length, .i .i64 0] = some [.i .i64 0, .l ((l.filter fun s => decide (s.from_ ≤ v)).map spc)] := by simpa using h1
  refine fn_lim rfl rfl ?_ rfl
  simp [h0, h1']
theorem known_nil (k v : Int) (h1 : 1 ≤ v) (h3 : v ≤ 3) : knownF k v = [] ↔ fromK k = 0 ∨ v < fromK k := by
  have hv : v = 1 ∨ v = 2 ∨ v = 3 := by omega
  unfold knownF specsF fromK
  by_cases k1 : k = 1
  · subst k1; rcases hv with rfl | rfl | rfl <;> decide
  by_cases k2 : k = 2
  · subst k2; rcases hv with rfl | rfl | rfl <;> decide
  by_cases k3 : k = 3
  · subst k3; rcases hv with rfl | rfl | rfl <;> decide
  by_cases k4 : k = 4
  · subst k4; rcases hv with rfl | rfl | rfl <;> decide
  by_cases k5 : k = 5
  · subst k5; rcases hv with rfl | rfl | rfl <;> decide
  by_cases k6 : k = 6
  · subst k6; rcases hv with rfl | rfl | rfl <;> decide
  by_cases k7 : k = 7
  · subst k7; rcases hv with rfl | rfl | rfl <;> decide
  by_cases k8 : k = 8
  · subst k8; rcases hv with rfl | rfl | rfl <;> decide
  simp [k1, k2, k3, k4, k5, k6, k7, k8]
def Fld.tag : Fld → Int
  | .mk t _ _ _ _ => t
theorem fldsG_map : ∀ (a : List Fld), fldsG a = a.map fldG
  | [] => rfl
  | f :: a => by simp only [fldsG, List.map_cons, fldsG_map a]
mutual
def szF : Fld → Nat
  | .mk _ _ _ _ l => szL l + 1
def szL : List Fld → Nat
  | [] => 0
  | f :: l => szF f + szL l + 1
end
mutual
def fldOk : Fld → Prop
  | .mk t y n s k => (0 ≤ t ∧ t < 18446744073709551616 ∧ -128 ≤ y ∧ y ≤ 127 ∧ 0 ≤ n ∧ n < 18446744073709551616 ∧ s.length ≤ 300 ∧ k.length ≤ 1000000) ∧ fldsOk k
def fldsOk : List Fld → Prop
  | [] => True
  | f :: r => fldOk f ∧ fldsOk r
end
theorem fldsOk_mem : ∀ {l : List Fld}, fldsOk l → ∀ f ∈ l, fldOk f
  | f :: l, h, g, hg => by
    simp only [fldsOk] at h
    rcases List.mem_cons.1 hg with rfl | hg
    · exact h.1
    · exact fldsOk_mem h.2 g hg
theorem szL_mem : ∀ {l : List Fld} {f : Fld}, f ∈ l → szF f < szL l
  | g :: l, f, h => by
    simp only [szL]
    rcases List.mem_cons.1 h with rfl | h
    · omega
    · have := szL_mem h; omega
mutual
/-- What is wrong with fields within so many lists, behind a tag. -/
def chkF1 (w : Nat) : Fld → Int
  | .mk _ y n s k => if y = 0 then (if s = [] ∧ k = [] then 0 else 8) else if y = 1 then (if n = 0 ∧ k = [] then 0 else 8) else if y = 2 then (if n = 0 ∧ s = [] then (if 8 ≤ w then 9 else chkFL (w + 1) 0 k) else 8) else 8
def chkFL (w : Nat) (ahead : Int) : List Fld → Int
  | [] => 0
  | f :: r => if f.tag = 0 then 18 else if 4294967296 < f.tag then 18 else if f.tag ≤ ahead then 7 else if chkF1 w f ≠ 0 then chkF1 w f else chkFL w f.tag r
end
@[simp] theorem fldG_cells (t y n : Int) (s : List UInt8) (k : List Fld) : (fldG (.mk t y n s k)).cells = [.i .u64 t, .i .i64 y, .i .u64 n, .s s, .l (fldsG k)] := by simp only [fldG]; rfl
theorem fldsG_nil (k : List Fld) : (fldsG k).length = 0 ↔ k = [] := by rw [fldsG_len, List.length_eq_zero_iff]
theorem fchk_all : ∀ (N : Nat) (l : List Fld), szL l < N → fldsOk l → l.length ≤ 1000000 → ∀ w : Nat, w ≤ 8 → TT.lim 75 [.l (fldsG l), .i .i64 w] = some [.i .i64 (chkFL w 0 l)]
  | 0, l, h, _, _, _, _ => by omega
  | N + 1, l, hN, hok, hlen, w, hw8 => by
    have loop : ∀ m i (ahead : Int), i + m = l.length → TT.lim 76 [.i .i64 w, .i .u64 ahead, .l (fldsG l), .i .i64 l.length, .i .i64 i] = some (if chkFL w ahead (l.drop i) = 0 then [.i .i64 1] else [.i .i64 0, .i .i64 (chkFL w ahead (l.drop i))]) := by
      intro m
      induction m with
      | zero =>
        intro i ahead hi
        have h0 : l.drop i = [] := List.drop_eq_nil_of_le (by omega)
        refine tree_lim rfl rfl ?_
        have h : ¬ ((i : Int) < l.length) := by omega
        simp [h, h0, chkFL]
      | succ m ih =>
        intro i ahead hi
        have hlt : i < l.length := by omega
        rw [List.drop_eq_getElem_cons hlt]
        have hf := fldsOk_mem hok l[i] (List.getElem_mem hlt)
        have hs := szL_mem (List.getElem_mem hlt)
        have hget : (fldsG l)[i]? = some (fldG l[i]) := by rw [fldsG_map, List.getElem?_map, List.getElem?_eq_getElem hlt]; rfl
        have hcast : ((i : Int) + 1) = ((i + 1 : Nat) : Int) := by omega
        have ih' := fun a => ih (i + 1) a (by omega)
        simp only [← hcast] at ih'
        generalize l[i] = f at *
        obtain ⟨t, y, n, s, k⟩ := f
        simp only [fldOk] at hf
        simp only [szF] at hs
        have hwr := wrap64 (n := (i : Int) + 1) (by omega) (by omega)
        have hww := wrap64 (n := (w : Int) + 1) (by omega) (by omega)
        refine tree_lim rfl rfl ?_
        have h : ((i : Int) < l.length) := by omega
        have hk := fun h => fchk_all N k (by omega) hf.2 hf.1.2.2.2.2.2.2.2 (w + 1) h
        simp only [Int.natCast_add, Int.natCast_one] at hk
        have hkl : ((fldsG k).length = 0) = (k = []) := propext (fldsG_nil k)
        simp only [chkFL, Fld.tag]
        by_cases h1 : t = 0
        · simp [h, hget, h1]
        by_cases h2 : 4294967296 < t
        · simp [h, hget, h1, h2]
        by_cases h3 : t ≤ ahead
        · simp [h, hget, h1, h2, h3]
        simp only [chkF1]
        by_cases h4 : y = 0
        · subst h4
          by_cases h5 : s = []
          · by_cases h6 : k = []
            · simp [h, hget, h1, h2, h3, h5, h6, hwr, ih', fldsG]
            · simp [h, hget, h1, h2, h3, h5, h6, hwr, ih', hkl]
          · simp [h, hget, h1, h2, h3, h5]
        by_cases h7 : y = 1
        · subst h7
          by_cases h5 : n = 0
          · by_cases h6 : k = []
            · simp [h, hget, h1, h2, h3, h5, h6, hwr, ih', fldsG]
            · simp [h, hget, h1, h2, h3, h5, h6, hwr, ih', hkl]
          · simp [h, hget, h1, h2, h3, h5]
        by_cases h8 : y = 2
        · subst h8
          by_cases h5 : n = 0
          · by_cases h6 : s = []
            · by_cases h9 : 8 ≤ w
              · have h9' : (8 : Int) ≤ w := by omega
                simp [h, hget, h1, h2, h3, h5, h6, h9, h9']
              · have h9' : ¬ (8 : Int) ≤ w := by omega
                have hk := hk (by omega)
                by_cases h10 : chkFL (w + 1) 0 k = 0
                · rw [h10] at hk
                  simp [h, hget, h1, h2, h3, h5, h6, h9, h9', hww, hk, h10, hwr, ih', Fld.tag]
                · simp [h, hget, h1, h2, h3, h5, h6, h9, h9', hww, hk, h10, hwr, ih', Fld.tag]
            · simp [h, hget, h1, h2, h3, h5, h6]
          · simp [h, hget, h1, h2, h3, h5]
        simp [h, hget, h1, h2, h3, h4, h7, h8]
    have h0 := loop l.length 0 0 (by omega)
    rw [List.drop_zero] at h0
    refine fn_lim rfl rfl ?_ rfl
    have hl2 := fldsG_len l
    by_cases hc : chkFL w 0 l = 0
    · rw [if_pos hc] at h0
      have h0' : TT.lim 76 [.i .i64 w, .i .u64 0, .l (fldsG l), .i .i64 (fldsG l).length, .i .i64 0] = some [.i .i64 1] := by rw [hl2]; exact h0
      simp [h0', hc]
    · rw [if_neg hc] at h0
      have h0' : TT.lim 76 [.i .i64 w, .i .u64 0, .l (fldsG l), .i .i64 (fldsG l).length, .i .i64 0] = some [.i .i64 0, .i .i64 (chkFL w 0 l)] := by rw [hl2]; exact h0
      simp [h0', hc]
theorem fcheck_ok (l : List Fld) (hok : fldsOk l) (hlen : l.length ≤ 1000000) : TT.lim 74 [.l (fldsG l)] = some [.i .i64 (chkFL 0 0 l)] := by
  have h := fchk_all (szL l + 1) l (by omega) hok hlen 0 (by omega)
  have h' : TT.lim 75 [.l (fldsG l), .i .i64 0] = _ := h
  refine fn_lim rfl rfl ?_ rfl
  simp [h']
theorem rfchk_all : ∀ (N : Nat) (l : List Fld), szL l < N → fldsOk l → l.length ≤ 1000000 → ∀ w : Nat, w ≤ 8 → TT.lim 121 [.l (fldsG l), .i .i64 w] = some [.i .i64 (chkFL w 0 l)]
  | 0, l, h, _, _, _, _ => by omega
  | N + 1, l, hN, hok, hlen, w, hw8 => by
    have loop : ∀ m i (ahead : Int), i + m = l.length → (i = 0 → ahead = 0) → (∀ j, j + 1 = i → ∀ h : j < l.length, (l[j]).tag = ahead) → TT.lim 122 [.l (fldsG l), .i .i64 w, .i .i64 l.length, .i .i64 i] = some (if chkFL w ahead (l.drop i) = 0 then [.i .i64 1] else [.i .i64 0, .i .i64 (chkFL w ahead (l.drop i))]) := by
      intro m
      induction m with
      | zero =>
        intro i ahead hi _ _
        have h0 : l.drop i = [] := List.drop_eq_nil_of_le (by omega)
        refine tree_lim rfl rfl ?_
        have h : ¬ ((i : Int) < l.length) := by omega
        simp [h, h0, chkFL]
      | succ m ih =>
        intro i ahead hi ha0 ha
        have hlt : i < l.length := by omega
        rw [List.drop_eq_getElem_cons hlt]
        have hf := fldsOk_mem hok l[i] (List.getElem_mem hlt)
        have hs := szL_mem (List.getElem_mem hlt)
        have hget : (fldsG l)[i]? = some (fldG l[i]) := by rw [fldsG_map, List.getElem?_map, List.getElem?_eq_getElem hlt]; rfl
        have hcast : ((i : Int) + 1) = ((i + 1 : Nat) : Int) := by omega
        have ih' := ih (i + 1) l[i].tag (by omega) (by omega) (fun j hj h => by have : j = i := by omega
                                                                                subst this; rfl)
        simp only [← hcast] at ih'
        -- the one ahead
        have hprev : ∀ hi0 : ¬ i = 0, ∃ y' n' s' k', (fldsG l)[i - 1]? = some (fldG (.mk ahead y' n' s' k')) := by
          intro hi0
          rw [fldsG_map, List.getElem?_map, List.getElem?_eq_getElem (show i - 1 < l.length by omega)]
          have := ha (i - 1) (by omega) (by omega)
          generalize l[i - 1] = g at *
          obtain ⟨t', y', n', s', k'⟩ := g
          simp only [Fld.tag] at this
          subst this
          exact ⟨_, _, _, _, rfl⟩
        generalize l[i] = f at *
        obtain ⟨t, y, n, s, k⟩ := f
        simp only [fldOk] at hf
        simp only [szF] at hs
        dsimp only [Fld.tag] at ih'
        have hwr := wrap64 (n := (i : Int) + 1) (by omega) (by omega)
        have hwm := wrap64 (n := (i : Int) - 1) (by omega) (by omega)
        have hww := wrap64 (n := (w : Int) + 1) (by omega) (by omega)
        refine tree_lim rfl rfl ?_
        have h : ((i : Int) < l.length) := by omega
        have hk := fun h => rfchk_all N k (by omega) hf.2 hf.1.2.2.2.2.2.2.2 (w + 1) h
        simp only [Int.natCast_add, Int.natCast_one] at hk
        have hkl : ((fldsG k).length = 0) = (k = []) := propext (fldsG_nil k)
        have hnil : TT.lim 121 [.l [], .i .i64 ((w : Int) + 1)] = some [.i .i64 0] := by
          refine fn_lim rfl rfl ?_ rfl
          have h0 : TT.lim 122 [.l [], .i .i64 ((w : Int) + 1), .i .i64 0, .i .i64 0] = some [.i .i64 1] := by
            refine tree_lim rfl rfl ?_
            simp
          simp [h0]
        simp only [chkFL, Fld.tag]
        by_cases h1 : t = 0
        · simp [h, hget, h1]
        by_cases h2 : 4294967296 < t
        · simp [h, hget, h1, h2]
        by_cases hi0 : (0 : Int) < i
        · obtain ⟨y', n', s', k', hp⟩ := hprev (by omega)
          have hge : 0 < i := by omega
          have hge2 : (1 : Int) ≤ i := by omega
          by_cases h3 : t ≤ ahead
          · simp [h, hget, h1, h2, hi0, hge, hge2, hwm, hp, h3]
          simp only [chkF1]
          by_cases h4 : y = 0
          · subst h4
            by_cases h5 : s = []
            · by_cases h6 : k = []
              · simp [h, hget, h1, h2, hi0, hge, hge2, hwm, hp, h3, h5, h6, hwr, hww, ih', hnil, if_true, if_false, fldsG, Fld.tag] <;> rfl
              · have h6' : ¬ (fldsG k).length = 0 := by rw [fldsG_nil]; exact h6
                have h6'' : ¬ fldsG k = [] := fun e => h6' (by rw [e]; rfl)
                simp [h, hget, h1, h2, hi0, hge, hge2, hwm, hp, h3, h5, h6, h6'']
            · simp [h, hget, h1, h2, hi0, hge, hge2, hwm, hp, h3, h5]
          by_cases h7 : y = 1
          · subst h7
            by_cases h5 : n = 0
            · by_cases h6 : k = []
              · simp [h, hget, h1, h2, hi0, hge, hge2, hwm, hp, h3, h5, h6, hwr, hww, ih', hnil, if_true, if_false, fldsG, Fld.tag] <;> rfl
              · have h6' : ¬ (fldsG k).length = 0 := by rw [fldsG_nil]; exact h6
                have h6'' : ¬ fldsG k = [] := fun e => h6' (by rw [e]; rfl)
                simp [h, hget, h1, h2, hi0, hge, hge2, hwm, hp, h3, h5, h6, h6'']
            · simp [h, hget, h1, h2, hi0, hge, hge2, hwm, hp, h3, h5]
          by_cases h8 : y = 2
          · subst h8
            by_cases h5 : n = 0
            · by_cases h6 : s = []
              · by_cases h9 : 8 ≤ w
                · have h9' : (w : Int) = 8 := by omega
                  simp [h, hget, h1, h2, hi0, hge, hge2, hwm, hp, h3, h5, h6, h9, h9']
                · have h9' : ¬ (w : Int) = 8 := by omega
                  have hk := hk (by omega)
                  by_cases h10 : chkFL (w + 1) 0 k = 0
                  · rw [h10] at hk
                    simp [h, hget, h1, h2, hi0, hge, hge2, hwm, hp, h3, h5, h6, h9, h9', hww, hk, h10, hwr, ih', Fld.tag] <;> rfl
                  · simp [h, hget, h1, h2, hi0, hge, hge2, hwm, hp, h3, h5, h6, h9, h9', hww, hk, h10, hwr, ih', Fld.tag] <;> rfl
              · simp [h, hget, h1, h2, hi0, hge, hge2, hwm, hp, h3, h5, h6]
            · simp [h, hget, h1, h2, hi0, hge, hge2, hwm, hp, h3, h5]
          by_cases h9 : y < 0
          · simp [h, hget, h1, h2, hi0, hge, hge2, hwm, hp, h3, h4, h7, h8, h9]
          · have h10 : 2 < y := by omega
            simp [h, hget, h1, h2, hi0, hge, hge2, hwm, hp, h3, h4, h7, h8, h9, h10]
        · have hz : (0 < i) = False := eq_false (by omega)
          have h3 : ¬ t ≤ ahead := by
            rw [ha0 (by omega)]; omega
          simp only [chkF1]
          by_cases h4 : y = 0
          · subst h4
            by_cases h5 : s = []
            · by_cases h6 : k = []
              · simp [h, hget, h1, h2, hz, h3, h5, h6, hwr, hww, ih', hnil, if_true, if_false, fldsG, Fld.tag] <;> rfl
              · have h6' : ¬ (fldsG k).length = 0 := by rw [fldsG_nil]; exact h6
                have h6'' : ¬ fldsG k = [] := fun e => h6' (by rw [e]; rfl)
                simp [h, hget, h1, h2, hz, h3, h5, h6, h6'']
            · simp [h, hget, h1, h2, hz, h3, h5]
          by_cases h7 : y = 1
          · subst h7
            by_cases h5 : n = 0
            · by_cases h6 : k = []
              · simp [h, hget, h1, h2, hz, h3, h5, h6, hwr, hww, ih', hnil, if_true, if_false, fldsG, Fld.tag] <;> rfl
              · have h6' : ¬ (fldsG k).length = 0 := by rw [fldsG_nil]; exact h6
                have h6'' : ¬ fldsG k = [] := fun e => h6' (by rw [e]; rfl)
                simp [h, hget, h1, h2, hz, h3, h5, h6, h6'']
            · simp [h, hget, h1, h2, hz, h3, h5]
          by_cases h8 : y = 2
          · subst h8
            by_cases h5 : n = 0
            · by_cases h6 : s = []
              · by_cases h9 : 8 ≤ w
                · have h9' : (w : Int) = 8 := by omega
                  simp [h, hget, h1, h2, hz, h3, h5, h6, h9, h9']
                · have h9' : ¬ (w : Int) = 8 := by omega
                  have hk := hk (by omega)
                  by_cases h10 : chkFL (w + 1) 0 k = 0
                  · rw [h10] at hk
                    simp [h, hget, h1, h2, hz, h3, h5, h6, h9, h9', hww, hk, h10, hwr, ih', Fld.tag] <;> rfl
                  · simp [h, hget, h1, h2, hz, h3, h5, h6, h9, h9', hww, hk, h10, hwr, ih', Fld.tag] <;> rfl
              · simp [h, hget, h1, h2, hz, h3, h5, h6]
            · simp [h, hget, h1, h2, hz, h3, h5]
          by_cases h9 : y < 0
          · simp [h, hget, h1, h2, hz, h3, h4, h7, h8, h9]
          · have h10 : 2 < y := by omega
            simp [h, hget, h1, h2, hz, h3, h4, h7, h8, h9, h10]
    have h0 := loop l.length 0 0 (by omega) (fun _ => rfl) (fun j hj => by omega)
    rw [List.drop_zero] at h0
    refine fn_lim rfl rfl ?_ rfl
    have hl2 := fldsG_len l
    by_cases hc : chkFL w 0 l = 0
    · rw [if_pos hc] at h0
      have h0' : TT.lim 122 [.l (fldsG l), .i .i64 w, .i .i64 (fldsG l).length, .i .i64 0] = some [.i .i64 1] := by rw [hl2]; exact h0
      simp [h0', hc]
    · rw [if_neg hc] at h0
      have h0' : TT.lim 122 [.l (fldsG l), .i .i64 w, .i .i64 (fldsG l).length, .i .i64 0] = some [.i .i64 0, .i .i64 (chkFL w 0 l)] := by rw [hl2]; exact h0
      simp [h0', hc]
inductive Pl where
  | rem | allow | name | region | note | d | t
  | num (k : Nat)
def n_remaining : List UInt8 := [114, 101, 109, 97, 105, 110, 105, 110, 103]
def n_allowed : List UInt8 := [97, 108, 108, 111, 119, 101, 100]
def n_name : List UInt8 := [110, 97, 109, 101]
def n_region : List UInt8 := [114, 101, 103, 105, 111, 110]
def n_note : List UInt8 := [110, 111, 116, 101]
def n_descr : List UInt8 := [100, 101, 115, 99, 114]
def n_table : List UInt8 := [116, 97, 98, 108, 101]
def n_id : List UInt8 := [105, 100]
def n_min : List UInt8 := [109, 105, 110]
def n_max : List UInt8 := [109, 97, 120]
def n_chosen : List UInt8 := [99, 104, 111, 115, 101, 110]
def n_flags : List UInt8 := [102, 108, 97, 103, 115]
def n_cost : List UInt8 := [99, 111, 115, 116]
def n_priority : List UInt8 := [112, 114, 105, 111, 114, 105, 116, 121]
def n_deadline : List UInt8 := [100, 101, 97, 100, 108, 105, 110, 101]
def n_retry : List UInt8 := [114, 101, 116, 114, 121]
def n_epoch : List UInt8 := [101, 112, 111, 99, 104]
def n_base : List UInt8 := [98, 97, 115, 101]
def n_digest : List UInt8 := [100, 105, 103, 101, 115, 116]
def n_lag : List UInt8 := [108, 97, 103]
def n_code : List UInt8 := [99, 111, 100, 101]
def n_want : List UInt8 := [119, 97, 110, 116]
def placeOf (n : List UInt8) : Option Pl :=
  if n = n_remaining then some .rem else if n = n_allowed then some .allow else if n = n_name then some .name else if n = n_region then some .region else if n = n_note then some .note else if n = n_descr then some .d else if n = n_table then some .t else if n = n_id then some (.num 0) else if n = n_min then some (.num 1) else if n = n_max then some (.num 2) else if n = n_chosen then some (.num 3) else if n = n_flags then some (.num 4) else if n = n_cost then some (.num 5) else if n = n_priority then some (.num 6) else if n = n_deadline then some (.num 7) else if n = n_retry then some (.num 8) else if n = n_epoch then some (.num 9) else if n = n_base then some (.num 10) else if n = n_digest then some (.num 11) else if n = n_lag then some (.num 12) else if n = n_code then some (.num 13) else if n = n_want then some (.num 14) else none
theorem pl_remaining : placeOf n_remaining = some .rem := rfl
theorem pl_allowed : placeOf n_allowed = some .allow := rfl
theorem pl_name : placeOf n_name = some .name := rfl
theorem pl_region : placeOf n_region = some .region := rfl
theorem pl_note : placeOf n_note = some .note := rfl
theorem pl_descr : placeOf n_descr = some .d := rfl
theorem pl_table : placeOf n_table = some .t := rfl
theorem pl_id : placeOf n_id = some (.num 0) := rfl
theorem pl_min : placeOf n_min = some (.num 1) := rfl
theorem pl_max : placeOf n_max = some (.num 2) := rfl
theorem pl_chosen : placeOf n_chosen = some (.num 3) := rfl
theorem pl_flags : placeOf n_flags = some (.num 4) := rfl
theorem pl_cost : placeOf n_cost = some (.num 5) := rfl
theorem pl_priority : placeOf n_priority = some (.num 6) := rfl
theorem pl_deadline : placeOf n_deadline = some (.num 7) := rfl
theorem pl_retry : placeOf n_retry = some (.num 8) := rfl
theorem pl_epoch : placeOf n_epoch = some (.num 9) := rfl
theorem pl_base : placeOf n_base = some (.num 10) := rfl
theorem pl_digest : placeOf n_digest = some (.num 11) := rfl
theorem pl_lag : placeOf n_lag = some (.num 12) := rfl
theorem pl_code : placeOf n_code = some (.num 13) := rfl
theorem pl_want : placeOf n_want = some (.num 14) := rfl
def numB (b : Bdy) (k : Nat) : Int := match k with
  | 0 => b.id
  | 1 => b.min
  | 2 => b.max
  | 3 => b.chosen
  | 4 => b.flags
  | 5 => b.cost
  | 6 => b.priority
  | 7 => b.deadline
  | 8 => b.retry
  | 9 => b.epoch
  | 10 => b.base
  | 11 => b.digest
  | 12 => b.lag
  | 13 => b.code
  | _ => b.want
def nothP (b : Bdy) : Pl → Bool
  | .rem => decide (b.remaining = 0)
  | .allow => !b.allowed
  | .name => decide (b.name = [])
  | .region => decide (b.region = [])
  | .note => decide (b.note = [])
  | .d => decide (b.d = [])
  | .t => decide (b.t = [])
  | .num k => decide (numB b k = 0)
def nothB (b : Bdy) (n : List UInt8) : Bool := match placeOf n with
  | some p => nothP b p
  | none => true
def mayP (b : Bdy) : Pl → Int
  | .name => utfChk b.name 0 256
  | .region => utfChk b.region 0 256
  | .note => utfChk b.note 0 256
  | .d => if b.d = [] then 0 else descrChk b.d
  | .t => checkT b.t
  | _ => 0
def mayB (b : Bdy) (n : List UInt8) : Int := match placeOf n with
  | some p => mayP b p
  | none => 0
def zz (x : Int) : Int := if 0 ≤ x then 2 * x else -2 * x - 1
def valP (b : Bdy) : Pl → Int × List UInt8
  | .rem => (zz b.remaining, [])
  | .allow => (if b.allowed = true then 1 else 0, [])
  | .name => (0, b.name)
  | .region => (0, b.region)
  | .note => (0, b.note)
  | .d => (0, if b.d = [] then [] else keyF b.d)
  | .t => (0, if b.t = [] then [] else (putK b.t).1)
  | .num k => (numB b k, [])
def typP : Pl → Int
  | .num _ => 0
  | .rem => 0
  | .allow => 0
  | _ => 1
def useP : Pl → Int
  | .num _ => 0
  | .allow => 1
  | .rem => 2
  | .d => 4
  | .t => 5
  | _ => 3
/-- A cascade over all names. -/
theorem by_name {Q : List UInt8 → Prop} (h_remaining : Q n_remaining) (h_allowed : Q n_allowed) (h_name : Q n_name) (h_region : Q n_region) (h_note : Q n_note) (h_descr : Q n_descr) (h_table : Q n_table) (h_id : Q n_id) (h_min : Q n_min) (h_max : Q n_max) (h_chosen : Q n_chosen) (h_flags : Q n_flags) (h_cost : Q n_cost) (h_priority : Q n_priority) (h_deadline : Q n_deadline) (h_retry : Q n_retry) (h_epoch : Q n_epoch) (h_base : Q n_base) (h_digest : Q n_digest) (h_lag : Q n_lag) (h_code : Q n_code) (h_want : Q n_want) (h0 : ∀ n, ¬ n = n_remaining → ¬ n = n_allowed → ¬ n = n_name → ¬ n = n_region → ¬ n = n_note → ¬ n = n_descr → ¬ n = n_table → ¬ n = n_id → ¬ n = n_min → ¬ n = n_max → ¬ n = n_chosen → ¬ n = n_flags → ¬ n = n_cost → ¬ n = n_priority → ¬ n = n_deadline → ¬ n = n_retry → ¬ n = n_epoch → ¬ n = n_base → ¬ n = n_digest → ¬ n = n_lag → ¬ n = n_code → ¬ n = n_want → Q n) (n : List UInt8) : Q n := by
  by_cases e_remaining : n = n_remaining
  · rw [e_remaining]; exact h_remaining
  by_cases e_allowed : n = n_allowed
  · rw [e_allowed]; exact h_allowed
  by_cases e_name : n = n_name
  · rw [e_name]; exact h_name
  by_cases e_region : n = n_region
  · rw [e_region]; exact h_region
  by_cases e_note : n = n_note
  · rw [e_note]; exact h_note
  by_cases e_descr : n = n_descr
  · rw [e_descr]; exact h_descr
  by_cases e_table : n = n_table
  · rw [e_table]; exact h_table
  by_cases e_id : n = n_id
  · rw [e_id]; exact h_id
  by_cases e_min : n = n_min
  · rw [e_min]; exact h_min
  by_cases e_max : n = n_max
  · rw [e_max]; exact h_max
  by_cases e_chosen : n = n_chosen
  · rw [e_chosen]; exact h_chosen
  by_cases e_flags : n = n_flags
  · rw [e_flags]; exact h_flags
  by_cases e_cost : n = n_cost
  · rw [e_cost]; exact h_cost
  by_cases e_priority : n = n_priority
  · rw [e_priority]; exact h_priority
  by_cases e_deadline : n = n_deadline
  · rw [e_deadline]; exact h_deadline
  by_cases e_retry : n = n_retry
  · rw [e_retry]; exact h_retry
  by_cases e_epoch : n = n_epoch
  · rw [e_epoch]; exact h_epoch
  by_cases e_base : n = n_base
  · rw [e_base]; exact h_base
  by_cases e_digest : n = n_digest
  · rw [e_digest]; exact h_digest
  by_cases e_lag : n = n_lag
  · rw [e_lag]; exact h_lag
  by_cases e_code : n = n_code
  · rw [e_code]; exact h_code
  by_cases e_want : n = n_want
  · rw [e_want]; exact h_want
  exact h0 n e_remaining e_allowed e_name e_region e_note e_descr e_table e_id e_min e_max e_chosen e_flags e_cost e_priority e_deadline e_retry e_epoch e_base e_digest e_lag e_code e_want
theorem pl_none (n : List UInt8) (e0 : ¬ n = n_remaining) (e1 : ¬ n = n_allowed) (e2 : ¬ n = n_name) (e3 : ¬ n = n_region) (e4 : ¬ n = n_note) (e5 : ¬ n = n_descr) (e6 : ¬ n = n_table) (e7 : ¬ n = n_id) (e8 : ¬ n = n_min) (e9 : ¬ n = n_max) (e10 : ¬ n = n_chosen) (e11 : ¬ n = n_flags) (e12 : ¬ n = n_cost) (e13 : ¬ n = n_priority) (e14 : ¬ n = n_deadline) (e15 : ¬ n = n_retry) (e16 : ¬ n = n_epoch) (e17 : ¬ n = n_base) (e18 : ¬ n = n_digest) (e19 : ¬ n = n_lag) (e20 : ¬ n = n_code) (e21 : ¬ n = n_want) : placeOf n = none := by
  unfold placeOf
  rw [if_neg e0, if_neg e1, if_neg e2, if_neg e3, if_neg e4, if_neg e5, if_neg e6, if_neg e7, if_neg e8, if_neg e9, if_neg e10, if_neg e11, if_neg e12, if_neg e13, if_neg e14, if_neg e15, if_neg e16, if_neg e17, if_neg e18, if_neg e19, if_neg e20, if_neg e21]
def encM (ps : List (List UInt8)) : List GV := ps.map fun p => .g [.s p, .b true]
def insN (ps : List (List UInt8)) (x : List UInt8) : List (List UInt8) := if x ∈ ps then ps else ps ++ [x]
theorem assoc_encM (n : List UInt8) : ∀ ps : List (List UInt8), assocG (.s n) (encM ps) = if n ∈ ps then some (.b true) else none
  | [] => rfl
  | p :: ps => by
    have ih := assoc_encM n ps
    simp only [encM, List.map_cons, assocG, keyEq] at ih ⊢
    by_cases e : n = p
    · subst e; simp
    · have e2 : ¬ p = n := fun h => e h.symm
      simp [e, ih]
theorem put_encM (x : List UInt8) : ∀ ps : List (List UInt8), putG (.s x) (.b true) (encM ps) = encM (insN ps x)
  | [] => rfl
  | p :: ps => by
    have ih := put_encM x ps
    unfold insN at ih ⊢
    simp only [encM, List.map_cons, putG, keyEq] at ih ⊢
    by_cases e : x = p
    · subst e; simp
    · have e1 : (x == p) = false := by simpa using e
      simp only [e1, Bool.false_eq_true, if_false]
      rw [ih]
      by_cases hm : x ∈ ps
      · simp only [hm, if_true, List.mem_cons, or_true, List.map_cons]
      · simp only [hm, if_false, List.mem_cons, e, or_false, List.cons_append, List.map_cons]
def insAll (ps : List (List UInt8)) (l : List Spc) : List (List UInt8) := l.foldl (fun ps s => insN ps s.name) ps
theorem mem_insN (n x : List UInt8) (ps : List (List UInt8)) : n ∈ insN ps x ↔ n ∈ ps ∨ x = n := by
  unfold insN
  split
  · next h => exact ⟨.inl, fun e => e.elim id (fun e => e ▸ h)⟩
  · simp [eq_comm]
theorem mem_insAll (n : List UInt8) : ∀ (l : List Spc) (ps : List (List UInt8)), n ∈ insAll ps l ↔ n ∈ ps ∨ ∃ s ∈ l, s.name = n
  | [], ps => by simp [insAll]
  | s :: l, ps => by
    have := mem_insAll n l (insN ps s.name)
    unfold insAll at this ⊢
    rw [List.foldl_cons, this, mem_insN]
    simp [or_assoc]
def hasN (l : List Spc) (n : List UInt8) : Bool := l.any fun s => decide (s.name = n)
theorem mem_hasN (n : List UInt8) (l : List Spc) : decide (n ∈ insAll [] l) = hasN l n := by
  rw [Bool.eq_iff_iff, decide_eq_true_iff, mem_insAll]
  simp [hasN]
theorem mchk0 (b : Bdy) (r : List GV) (l : List Spc) (hl : l.length ≤ 1000) : ∀ (m i : Nat) (ps : List (List UInt8)), i + m = l.length →
    TT.lim 38 [.l (l.map spc), .i .i64 l.length, .i .i64 i, .l (encM ps), .i .i64 b.kind, .i .u64 b.id, .i .u64 b.min, .i .u64 b.max, .i .u64 b.chosen, .i .u64 b.flags, .i .u64 b.cost, .i .u64 b.priority, .i .u64 b.deadline, .i .u64 b.retry, .i .u64 b.epoch, .i .u64 b.base, .i .u64 b.digest, .i .u64 b.lag, .i .u64 b.code, .i .u64 b.want, .i .i64 b.remaining, .b b.allowed, .s b.name, .s b.region, .s b.note, .l (b.d.map ent), .l (b.t.map row), .l r] = some [.i .i64 0, .l (encM (insAll ps (l.drop i)))]
  | 0, i, ps, hi => by
    have h0 : l.drop i = [] := List.drop_eq_nil_of_le (by omega)
    refine tree_lim rfl rfl ?_
    have h : ¬ ((i : Int) < l.length) := by omega
    simp [h, h0, insAll]
  | m + 1, i, ps, hi => by
    have hlt : i < l.length := by omega
    have ih := mchk0 b r l hl m (i + 1) (insN ps l[i].name) (by omega)
    have hcast : ((i : Int) + 1) = ((i + 1 : Nat) : Int) := by omega
    rw [← hcast] at ih
    have hp := put_encM l[i].name ps
    have hd : insAll ps (l.drop i) = insAll (insN ps l[i].name) (l.drop (i + 1)) := by
      rw [List.drop_eq_getElem_cons hlt]; rfl
    rw [hd]
    generalize insAll (insN ps l[i].name) (l.drop (i + 1)) = X at *
    generalize encM (insN ps l[i].name) = Y at *
    refine tree_lim rfl rfl ?_
    have h : ((i : Int) < l.length) := by omega
    have hw := wrap64 (n := (i : Int) + 1) (by omega) (by omega)
    simp [h, hlt, hw, hp, ih]
/-- One round of the second loop. -/
def Step1 (b : Bdy) (r : List GV) (n : List UInt8) (c : Prop) : Prop := ∀ (sp : GV) (ns : List (List UInt8)) (i : Nat) (ps : List (List UInt8)) (out : List GV) (h : i < ns.length), ((i : Int) < ns.length) → IntKind.i64.wrap ((i : Int) + 1) = (i : Int) + 1 → ns[i] = n → assocG (.s n) (encM ps) = none →
    TT.lim 40 [sp, .l (ns.map .s), .i .i64 ns.length, .i .i64 ((i : Int) + 1), .l (encM ps), .i .i64 b.kind, .i .u64 b.id, .i .u64 b.min, .i .u64 b.max, .i .u64 b.chosen, .i .u64 b.flags, .i .u64 b.cost, .i .u64 b.priority, .i .u64 b.deadline, .i .u64 b.retry, .i .u64 b.epoch, .i .u64 b.base, .i .u64 b.digest, .i .u64 b.lag, .i .u64 b.code, .i .u64 b.want, .i .i64 b.remaining, .b b.allowed, .s b.name, .s b.region, .s b.note, .l (b.d.map ent), .l (b.t.map row), .l r] = some out →
    (c → TT.lim 40 [sp, .l (ns.map .s), .i .i64 ns.length, .i .i64 i, .l (encM ps), .i .i64 b.kind, .i .u64 b.id, .i .u64 b.min, .i .u64 b.max, .i .u64 b.chosen, .i .u64 b.flags, .i .u64 b.cost, .i .u64 b.priority, .i .u64 b.deadline, .i .u64 b.retry, .i .u64 b.epoch, .i .u64 b.base, .i .u64 b.digest, .i .u64 b.lag, .i .u64 b.code, .i .u64 b.want, .i .i64 b.remaining, .b b.allowed, .s b.name, .s b.region, .s b.note, .l (b.d.map ent), .l (b.t.map row), .l r] = some out) ∧ (¬ c → TT.lim 40 [sp, .l (ns.map .s), .i .i64 ns.length, .i .i64 i, .l (encM ps), .i .i64 b.kind, .i .u64 b.id, .i .u64 b.min, .i .u64 b.max, .i .u64 b.chosen, .i .u64 b.flags, .i .u64 b.cost, .i .u64 b.priority, .i .u64 b.deadline, .i .u64 b.retry, .i .u64 b.epoch, .i .u64 b.base, .i .u64 b.digest, .i .u64 b.lag, .i .u64 b.code, .i .u64 b.want, .i .i64 b.remaining, .b b.allowed, .s b.name, .s b.region, .s b.note, .l (b.d.map ent), .l (b.t.map row), .l r] = some [.i .i64 0])
theorem st1_remaining (b : Bdy) (r : List GV) : Step1 b r n_remaining (b.remaining = 0) := by
  intro sp ns i ps out h h1 hw hn ha ih
  unfold n_remaining at *
  refine ⟨fun hc => tree_lim rfl rfl ?_, fun hc => tree_lim rfl rfl ?_⟩
  · have hc := eq_true hc
    simp [h1, h, hn, hw, ha, hc, ih]
  · simp [h1, h, hn, ha, hc]
theorem st1_allowed (b : Bdy) (r : List GV) : Step1 b r n_allowed (b.allowed = false) := by
  intro sp ns i ps out h h1 hw hn ha ih
  unfold n_allowed at *
  refine ⟨fun hc => tree_lim rfl rfl ?_, fun hc => tree_lim rfl rfl ?_⟩
  · rw [hc] at ih
    simp [h1, h, hn, hw, ha, hc, ih]
  · simp [h1, h, hn, ha, hc]
theorem st1_name (b : Bdy) (r : List GV) : Step1 b r n_name (b.name = []) := by
  intro sp ns i ps out h h1 hw hn ha ih
  unfold n_name at *
  refine ⟨fun hc => tree_lim rfl rfl ?_, fun hc => tree_lim rfl rfl ?_⟩
  · have hc := eq_true hc
    simp [h1, h, hn, hw, ha, hc, ih]
  · simp [h1, h, hn, ha, hc]
theorem st1_region (b : Bdy) (r : List GV) : Step1 b r n_region (b.region = []) := by
  intro sp ns i ps out h h1 hw hn ha ih
  unfold n_region at *
  refine ⟨fun hc => tree_lim rfl rfl ?_, fun hc => tree_lim rfl rfl ?_⟩
  · have hc := eq_true hc
    simp [h1, h, hn, hw, ha, hc, ih]
  · simp [h1, h, hn, ha, hc]
theorem st1_note (b : Bdy) (r : List GV) : Step1 b r n_note (b.note = []) := by
  intro sp ns i ps out h h1 hw hn ha ih
  unfold n_note at *
  refine ⟨fun hc => tree_lim rfl rfl ?_, fun hc => tree_lim rfl rfl ?_⟩
  · have hc := eq_true hc
    simp [h1, h, hn, hw, ha, hc, ih]
  · simp [h1, h, hn, ha, hc]
theorem st1_descr (b : Bdy) (r : List GV) : Step1 b r n_descr (b.d = []) := by
  intro sp ns i ps out h h1 hw hn ha ih
  unfold n_descr at *
  refine ⟨fun hc => tree_lim rfl rfl ?_, fun hc => tree_lim rfl rfl ?_⟩
  · have hc := eq_true hc
    simp [h1, h, hn, hw, ha, hc, ih]
  · simp [h1, h, hn, ha, hc]
theorem st1_table (b : Bdy) (r : List GV) : Step1 b r n_table (b.t = []) := by
  intro sp ns i ps out h h1 hw hn ha ih
  unfold n_table at *
  refine ⟨fun hc => tree_lim rfl rfl ?_, fun hc => tree_lim rfl rfl ?_⟩
  · have hc := eq_true hc
    simp [h1, h, hn, hw, ha, hc, ih]
  · simp [h1, h, hn, ha, hc]
theorem st1_id (b : Bdy) (r : List GV) : Step1 b r n_id (b.id = 0) := by
  intro sp ns i ps out h h1 hw hn ha ih
  unfold n_id at *
  refine ⟨fun hc => tree_lim rfl rfl ?_, fun hc => tree_lim rfl rfl ?_⟩
  · have hc := eq_true hc
    simp [h1, h, hn, hw, ha, hc, ih]
  · simp [h1, h, hn, ha, hc]
theorem st1_min (b : Bdy) (r : List GV) : Step1 b r n_min (b.min = 0) := by
  intro sp ns i ps out h h1 hw hn ha ih
  unfold n_min at *
  refine ⟨fun hc => tree_lim rfl rfl ?_, fun hc => tree_lim rfl rfl ?_⟩
  · have hc := eq_true hc
    simp [h1, h, hn, hw, ha, hc, ih]
  · simp [h1, h, hn, ha, hc]
theorem st1_max (b : Bdy) (r : List GV) : Step1 b r n_max (b.max = 0) := by
  intro sp ns i ps out h h1 hw hn ha ih
  unfold n_max at *
  refine ⟨fun hc => tree_lim rfl rfl ?_, fun hc => tree_lim rfl rfl ?_⟩
  · have hc := eq_true hc
    simp [h1, h, hn, hw, ha, hc, ih]
  · simp [h1, h, hn, ha, hc]
theorem st1_chosen (b : Bdy) (r : List GV) : Step1 b r n_chosen (b.chosen = 0) := by
  intro sp ns i ps out h h1 hw hn ha ih
  unfold n_chosen at *
  refine ⟨fun hc => tree_lim rfl rfl ?_, fun hc => tree_lim rfl rfl ?_⟩
  · have hc := eq_true hc
    simp [h1, h, hn, hw, ha, hc, ih]
  · simp [h1, h, hn, ha, hc]
theorem st1_flags (b : Bdy) (r : List GV) : Step1 b r n_flags (b.flags = 0) := by
  intro sp ns i ps out h h1 hw hn ha ih
  unfold n_flags at *
  refine ⟨fun hc => tree_lim rfl rfl ?_, fun hc => tree_lim rfl rfl ?_⟩
  · have hc := eq_true hc
    simp [h1, h, hn, hw, ha, hc, ih]
  · simp [h1, h, hn, ha, hc]
theorem st1_cost (b : Bdy) (r : List GV) : Step1 b r n_cost (b.cost = 0) := by
  intro sp ns i ps out h h1 hw hn ha ih
  unfold n_cost at *
  refine ⟨fun hc => tree_lim rfl rfl ?_, fun hc => tree_lim rfl rfl ?_⟩
  · have hc := eq_true hc
    simp [h1, h, hn, hw, ha, hc, ih]
  · simp [h1, h, hn, ha, hc]
theorem st1_priority (b : Bdy) (r : List GV) : Step1 b r n_priority (b.priority = 0) := by
  intro sp ns i ps out h h1 hw hn ha ih
  unfold n_priority at *
  refine ⟨fun hc => tree_lim rfl rfl ?_, fun hc => tree_lim rfl rfl ?_⟩
  · have hc := eq_true hc
    simp [h1, h, hn, hw, ha, hc, ih]
  · simp [h1, h, hn, ha, hc]
theorem st1_deadline (b : Bdy) (r : List GV) : Step1 b r n_deadline (b.deadline = 0) := by
  intro sp ns i ps out h h1 hw hn ha ih
  unfold n_deadline at *
  refine ⟨fun hc => tree_lim rfl rfl ?_, fun hc => tree_lim rfl rfl ?_⟩
  · have hc := eq_true hc
    simp [h1, h, hn, hw, ha, hc, ih]
  · simp [h1, h, hn, ha, hc]
theorem st1_retry (b : Bdy) (r : List GV) : Step1 b r n_retry (b.retry = 0) := by
  intro sp ns i ps out h h1 hw hn ha ih
  unfold n_retry at *
  refine ⟨fun hc => tree_lim rfl rfl ?_, fun hc => tree_lim rfl rfl ?_⟩
  · have hc := eq_true hc
    simp [h1, h, hn, hw, ha, hc, ih]
  · simp [h1, h, hn, ha, hc]
theorem st1_epoch (b : Bdy) (r : List GV) : Step1 b r n_epoch (b.epoch = 0) := by
  intro sp ns i ps out h h1 hw hn ha ih
  unfold n_epoch at *
  refine ⟨fun hc => tree_lim rfl rfl ?_, fun hc => tree_lim rfl rfl ?_⟩
  · have hc := eq_true hc
    simp [h1, h, hn, hw, ha, hc, ih]
  · simp [h1, h, hn, ha, hc]
theorem st1_base (b : Bdy) (r : List GV) : Step1 b r n_base (b.base = 0) := by
  intro sp ns i ps out h h1 hw hn ha ih
  unfold n_base at *
  refine ⟨fun hc => tree_lim rfl rfl ?_, fun hc => tree_lim rfl rfl ?_⟩
  · have hc := eq_true hc
    simp [h1, h, hn, hw, ha, hc, ih]
  · simp [h1, h, hn, ha, hc]
theorem st1_digest (b : Bdy) (r : List GV) : Step1 b r n_digest (b.digest = 0) := by
  intro sp ns i ps out h h1 hw hn ha ih
  unfold n_digest at *
  refine ⟨fun hc => tree_lim rfl rfl ?_, fun hc => tree_lim rfl rfl ?_⟩
  · have hc := eq_true hc
    simp [h1, h, hn, hw, ha, hc, ih]
  · simp [h1, h, hn, ha, hc]
theorem st1_lag (b : Bdy) (r : List GV) : Step1 b r n_lag (b.lag = 0) := by
  intro sp ns i ps out h h1 hw hn ha ih
  unfold n_lag at *
  refine ⟨fun hc => tree_lim rfl rfl ?_, fun hc => tree_lim rfl rfl ?_⟩
  · have hc := eq_true hc
    simp [h1, h, hn, hw, ha, hc, ih]
  · simp [h1, h, hn, ha, hc]
theorem st1_code (b : Bdy) (r : List GV) : Step1 b r n_code (b.code = 0) := by
  intro sp ns i ps out h h1 hw hn ha ih
  unfold n_code at *
  refine ⟨fun hc => tree_lim rfl rfl ?_, fun hc => tree_lim rfl rfl ?_⟩
  · have hc := eq_true hc
    simp [h1, h, hn, hw, ha, hc, ih]
  · simp [h1, h, hn, ha, hc]
theorem st1_want (b : Bdy) (r : List GV) : Step1 b r n_want (b.want = 0) := by
  intro sp ns i ps out h h1 hw hn ha ih
  unfold n_want at *
  refine ⟨fun hc => tree_lim rfl rfl ?_, fun hc => tree_lim rfl rfl ?_⟩
  · have hc := eq_true hc
    simp [h1, h, hn, hw, ha, hc, ih]
  · simp [h1, h, hn, ha, hc]
end M
end Go.Proofs.YtckgelanagoenaaGreatDoor
