/- What the trees compute: plain laws. -/
import Derived.Test.YtbcpbplkgknnmaaGreatDoorKXa
namespace Go.Proofs.YtbcpbplkgknnmaaGreatDoor
open Go Go.Abs
set_option linter.unusedSimpArgs false
set_option linter.unusedVariables false
set_option maxRecDepth 100000
namespace X
structure One where
  deep : Int
  tag : Int
  typ : Int
  num : Int
  text : List UInt8
inductive Fld where
  | mk (tag typ num : Int) (text : List UInt8) (l : List Fld)
def one (x : One) : GV := .g [.i .u8 x.deep, .i .u64 x.tag, .i .i8 x.typ, .i .u64 x.num, .s x.text]
@[simp] theorem one_cells (x : One) : (one x).cells = [.i .u8 x.deep, .i .u64 x.tag, .i .i8 x.typ, .i .u64 x.num, .s x.text] := rfl
mutual
def fldG : Fld → GV
  | .mk t y n s l => .g [.i .u64 t, .i .i64 y, .i .u64 n, .s s, .l (fldsG l)]
def fldsG : List Fld → List GV
  | [] => []
  | f :: l => fldG f :: fldsG l
end
theorem fldsG_len : ∀ (a : List Fld), (fldsG a).length = a.length
  | [] => rfl
  | f :: a => by simp only [fldsG, List.length_cons, fldsG_len a]
structure Bdy where
  kind : Int
  id : Int
  min : Int
  max : Int
  chosen : Int
  flags : Int
  cost : Int
  priority : Int
  deadline : Int
  retry : Int
  epoch : Int
  base : Int
  digest : Int
  lag : Int
  code : Int
  want : Int
  remaining : Int
  allowed : Bool
  name : List UInt8
  region : List UInt8
  note : List UInt8
  d : List Ent
  t : List Row
/-- A message: what it has, and its rest. -/
def msgG (b : Bdy) (r : List GV) : GV := .g [.i .i64 b.kind, .i .u64 b.id, .i .u64 b.min, .i .u64 b.max, .i .u64 b.chosen, .i .u64 b.flags, .i .u64 b.cost, .i .u64 b.priority, .i .u64 b.deadline, .i .u64 b.retry, .i .u64 b.epoch, .i .u64 b.base, .i .u64 b.digest, .i .u64 b.lag, .i .u64 b.code, .i .u64 b.want, .i .i64 b.remaining, .b b.allowed, .s b.name, .s b.region, .s b.note, .l (b.d.map ent), .l (b.t.map row), .l r]
theorem msgG_fold (b : Bdy) (r : List GV) : GV.g [.i .i64 b.kind, .i .u64 b.id, .i .u64 b.min, .i .u64 b.max, .i .u64 b.chosen, .i .u64 b.flags, .i .u64 b.cost, .i .u64 b.priority, .i .u64 b.deadline, .i .u64 b.retry, .i .u64 b.epoch, .i .u64 b.base, .i .u64 b.digest, .i .u64 b.lag, .i .u64 b.code, .i .u64 b.want, .i .i64 b.remaining, .b b.allowed, .s b.name, .s b.region, .s b.note, .l (b.d.map ent), .l (b.t.map row), .l r] = msgG b r := rfl
@[simp] theorem msgG_cells (b : Bdy) (r : List GV) : (msgG b r).cells = [.i .i64 b.kind, .i .u64 b.id, .i .u64 b.min, .i .u64 b.max, .i .u64 b.chosen, .i .u64 b.flags, .i .u64 b.cost, .i .u64 b.priority, .i .u64 b.deadline, .i .u64 b.retry, .i .u64 b.epoch, .i .u64 b.base, .i .u64 b.digest, .i .u64 b.lag, .i .u64 b.code, .i .u64 b.want, .i .i64 b.remaining, .b b.allowed, .s b.name, .s b.region, .s b.note, .l (b.d.map ent), .l (b.t.map row), .l r] := rfl
structure BdyOk (b : Bdy) : Prop where
  kind : -9223372036854775808 ≤ b.kind ∧ b.kind ≤ 9223372036854775807
  id : 0 ≤ b.id ∧ b.id < 18446744073709551616
  min : 0 ≤ b.min ∧ b.min < 18446744073709551616
  max : 0 ≤ b.max ∧ b.max < 18446744073709551616
  chosen : 0 ≤ b.chosen ∧ b.chosen < 18446744073709551616
  flags : 0 ≤ b.flags ∧ b.flags < 18446744073709551616
  cost : 0 ≤ b.cost ∧ b.cost < 18446744073709551616
  priority : 0 ≤ b.priority ∧ b.priority < 18446744073709551616
  deadline : 0 ≤ b.deadline ∧ b.deadline < 18446744073709551616
  retry : 0 ≤ b.retry ∧ b.retry < 18446744073709551616
  epoch : 0 ≤ b.epoch ∧ b.epoch < 18446744073709551616
  base : 0 ≤ b.base ∧ b.base < 18446744073709551616
  digest : 0 ≤ b.digest ∧ b.digest < 18446744073709551616
  lag : 0 ≤ b.lag ∧ b.lag < 18446744073709551616
  code : 0 ≤ b.code ∧ b.code < 18446744073709551616
  want : 0 ≤ b.want ∧ b.want < 18446744073709551616
  remaining : -9223372036854775808 ≤ b.remaining ∧ b.remaining ≤ 9223372036854775807
  name : b.name.length ≤ 140737488351232
  region : b.region.length ≤ 140737488351232
  note : b.note.length ≤ 140737488351232
  d : Ents b.d
  t : Rows b.t
theorem has_int {k : IntKind} {g : GV} (h : (GTy.int k).has g) : ∃ n, g = .i k n ∧ k.min ≤ n ∧ n ≤ k.max := by
  simp only [GTy.has] at h
  exact h
theorem has_i64 {g : GV} (h : (GTy.int .i64).has g) : ∃ n, g = .i .i64 n ∧ -9223372036854775808 ≤ n ∧ n ≤ 9223372036854775807 := by
  obtain ⟨n, rfl, h1, h2⟩ := has_int h
  exact ⟨n, rfl, by simpa [IntKind.min, IntKind.signed, IntKind.bits] using h1, by simpa [IntKind.max, IntKind.signed, IntKind.bits] using h2⟩
structure Spc where
  tag : Int
  use : Int
  from_ : Int
  name : List UInt8
def spc (s : Spc) : GV := .g [.i .u64 s.tag, .i .i64 s.use, .i .i64 s.from_, .s s.name]
@[simp] theorem spc_cells (s : Spc) : (spc s).cells = [.i .u64 s.tag, .i .i64 s.use, .i .i64 s.from_, .s s.name] := rfl
def sp1 : List Spc := [⟨1, 0, 1, [109, 105, 110]⟩, ⟨2, 0, 1, [109, 97, 120]⟩, ⟨3, 3, 1, [110, 97, 109, 101]⟩, ⟨4, 3, 2, [114, 101, 103, 105, 111, 110]⟩, ⟨5, 0, 3, [102, 108, 97, 103, 115]⟩]
def sp2 : List Spc := [⟨1, 0, 1, [99, 104, 111, 115, 101, 110]⟩, ⟨2, 3, 1, [110, 97, 109, 101]⟩, ⟨3, 3, 2, [114, 101, 103, 105, 111, 110]⟩]
def sp3 : List Spc := [⟨1, 0, 1, [105, 100]⟩, ⟨2, 4, 1, [100, 101, 115, 99, 114]⟩, ⟨3, 0, 1, [99, 111, 115, 116]⟩, ⟨4, 0, 2, [112, 114, 105, 111, 114, 105, 116, 121]⟩, ⟨5, 0, 3, [100, 101, 97, 100, 108, 105, 110, 101]⟩]
def sp4 : List Spc := [⟨1, 0, 1, [105, 100]⟩, ⟨2, 1, 1, [97, 108, 108, 111, 119, 101, 100]⟩, ⟨3, 2, 1, [114, 101, 109, 97, 105, 110, 105, 110, 103]⟩, ⟨4, 0, 2, [114, 101, 116, 114, 121]⟩, ⟨5, 3, 3, [110, 111, 116, 101]⟩]
def sp5 : List Spc := [⟨1, 0, 1, [101, 112, 111, 99, 104]⟩, ⟨2, 5, 1, [116, 97, 98, 108, 101]⟩, ⟨3, 3, 2, [114, 101, 103, 105, 111, 110]⟩, ⟨4, 0, 3, [100, 105, 103, 101, 115, 116]⟩]
def sp6 : List Spc := [⟨1, 0, 2, [98, 97, 115, 101]⟩, ⟨2, 0, 2, [101, 112, 111, 99, 104]⟩, ⟨3, 5, 2, [116, 97, 98, 108, 101]⟩, ⟨4, 3, 2, [114, 101, 103, 105, 111, 110]⟩, ⟨5, 0, 3, [100, 105, 103, 101, 115, 116]⟩]
def sp7 : List Spc := [⟨1, 0, 1, [101, 112, 111, 99, 104]⟩, ⟨2, 0, 3, [108, 97, 103]⟩]
def sp8 : List Spc := [⟨1, 0, 1, [101, 112, 111, 99, 104]⟩, ⟨2, 0, 1, [99, 111, 100, 101]⟩, ⟨3, 0, 2, [119, 97, 110, 116]⟩, ⟨4, 3, 3, [110, 111, 116, 101]⟩]
def specsF (k : Int) : List Spc := if k = 1 then sp1 else if k = 2 then sp2 else if k = 3 then sp3 else if k = 4 then sp4 else if k = 5 then sp5 else if k = 6 then sp6 else if k = 7 then sp7 else if k = 8 then sp8 else []
theorem sp_len (k : Int) : (specsF k).length ≤ 8 := by
  unfold specsF
  repeat' split
  all_goals (first | (unfold sp1; decide) | (unfold sp2; decide) | (unfold sp3; decide) | (unfold sp4; decide) | (unfold sp5; decide) | (unfold sp6; decide) | (unfold sp7; decide) | (unfold sp8; decide) | decide)
theorem rspecs_ok (k : Int) : TT.lim 89 [.i .i64 k] = some [.l ((specsF k).map spc)] := by
  unfold specsF
  refine fn_lim rfl rfl ?_ rfl
  by_cases k1 : k = 1
  · simp [k1, sp1, spc]
  by_cases k2 : k = 2
  · simp [k2, sp2, spc]
  by_cases k3 : k = 3
  · simp [k3, sp3, spc]
  by_cases k4 : k = 4
  · simp [k4, sp4, spc]
  by_cases k5 : k = 5
  · simp [k5, sp5, spc]
  by_cases k6 : k = 6
  · simp [k6, sp6, spc]
  by_cases k7 : k = 7
  · simp [k7, sp7, spc]
  by_cases k8 : k = 8
  · simp [k8, sp8, spc]
  simp [k1, k2, k3, k4, k5, k6, k7, k8]
theorem fldsG_map : ∀ (a : List Fld), fldsG a = a.map fldG
  | [] => rfl
  | f :: a => by simp only [fldsG, List.map_cons, fldsG_map a]
mutual
def szF : Fld → Nat
  | .mk _ _ _ _ l => szL l + 1
def szL : List Fld → Nat
  | [] => 0
  | f :: l => szF f + szL l + 1
end
mutual
def fldOk : Fld → Prop
  | .mk t y n s k => (0 ≤ t ∧ t < 18446744073709551616 ∧ -128 ≤ y ∧ y ≤ 127 ∧ 0 ≤ n ∧ n < 18446744073709551616 ∧ s.length ≤ 300 ∧ k.length ≤ 1000000) ∧ fldsOk k
def fldsOk : List Fld → Prop
  | [] => True
  | f :: r => fldOk f ∧ fldsOk r
end
theorem fldsOk_mem : ∀ {l : List Fld}, fldsOk l → ∀ f ∈ l, fldOk f
  | f :: l, h, g, hg => by
    simp only [fldsOk] at h
    rcases List.mem_cons.1 hg with rfl | hg
    · exact h.1
    · exact fldsOk_mem h.2 g hg
theorem szL_mem : ∀ {l : List Fld} {f : Fld}, f ∈ l → szF f < szL l
  | g :: l, f, h => by
    simp only [szL]
    rcases List.mem_cons.1 h with rfl | h
    · omega
    · have := szL_mem h; omega
@[simp] theorem fldG_cells (t y n : Int) (s : List UInt8) (k : List Fld) : (fldG (.mk t y n s k)).cells = [.i .u64 t, .i .i64 y, .i .u64 n, .s s, .l (fldsG k)] := by simp only [fldG]; rfl
inductive Pl where
  | rem | allow | name | region | note | d | t
  | num (k : Nat)
def n_remaining : List UInt8 := [114, 101, 109, 97, 105, 110, 105, 110, 103]
def n_allowed : List UInt8 := [97, 108, 108, 111, 119, 101, 100]
def n_name : List UInt8 := [110, 97, 109, 101]
def n_region : List UInt8 := [114, 101, 103, 105, 111, 110]
def n_note : List UInt8 := [110, 111, 116, 101]
def n_descr : List UInt8 := [100, 101, 115, 99, 114]
def n_table : List UInt8 := [116, 97, 98, 108, 101]
def n_id : List UInt8 := [105, 100]
def n_min : List UInt8 := [109, 105, 110]
def n_max : List UInt8 := [109, 97, 120]
def n_chosen : List UInt8 := [99, 104, 111, 115, 101, 110]
def n_flags : List UInt8 := [102, 108, 97, 103, 115]
def n_cost : List UInt8 := [99, 111, 115, 116]
def n_priority : List UInt8 := [112, 114, 105, 111, 114, 105, 116, 121]
def n_deadline : List UInt8 := [100, 101, 97, 100, 108, 105, 110, 101]
def n_retry : List UInt8 := [114, 101, 116, 114, 121]
def n_epoch : List UInt8 := [101, 112, 111, 99, 104]
def n_base : List UInt8 := [98, 97, 115, 101]
def n_digest : List UInt8 := [100, 105, 103, 101, 115, 116]
def n_lag : List UInt8 := [108, 97, 103]
def n_code : List UInt8 := [99, 111, 100, 101]
def n_want : List UInt8 := [119, 97, 110, 116]
def placeOf (n : List UInt8) : Option Pl :=
  if n = n_remaining then some .rem else if n = n_allowed then some .allow else if n = n_name then some .name else if n = n_region then some .region else if n = n_note then some .note else if n = n_descr then some .d else if n = n_table then some .t else if n = n_id then some (.num 0) else if n = n_min then some (.num 1) else if n = n_max then some (.num 2) else if n = n_chosen then some (.num 3) else if n = n_flags then some (.num 4) else if n = n_cost then some (.num 5) else if n = n_priority then some (.num 6) else if n = n_deadline then some (.num 7) else if n = n_retry then some (.num 8) else if n = n_epoch then some (.num 9) else if n = n_base then some (.num 10) else if n = n_digest then some (.num 11) else if n = n_lag then some (.num 12) else if n = n_code then some (.num 13) else if n = n_want then some (.num 14) else none
theorem pl_remaining : placeOf n_remaining = some .rem := rfl
theorem pl_allowed : placeOf n_allowed = some .allow := rfl
theorem pl_name : placeOf n_name = some .name := rfl
theorem pl_region : placeOf n_region = some .region := rfl
theorem pl_note : placeOf n_note = some .note := rfl
theorem pl_descr : placeOf n_descr = some .d := rfl
theorem pl_table : placeOf n_table = some .t := rfl
theorem pl_id : placeOf n_id = some (.num 0) := rfl
theorem pl_min : placeOf n_min = some (.num 1) := rfl
theorem pl_max : placeOf n_max = some (.num 2) := rfl
theorem pl_chosen : placeOf n_chosen = some (.num 3) := rfl
theorem pl_flags : placeOf n_flags = some (.num 4) := rfl
theorem pl_cost : placeOf n_cost = some (.num 5) := rfl
theorem pl_priority : placeOf n_priority = some (.num 6) := rfl
theorem pl_deadline : placeOf n_deadline = some (.num 7) := rfl
theorem pl_retry : placeOf n_retry = some (.num 8) := rfl
theorem pl_epoch : placeOf n_epoch = some (.num 9) := rfl
theorem pl_base : placeOf n_base = some (.num 10) := rfl
theorem pl_digest : placeOf n_digest = some (.num 11) := rfl
theorem pl_lag : placeOf n_lag = some (.num 12) := rfl
theorem pl_code : placeOf n_code = some (.num 13) := rfl
theorem pl_want : placeOf n_want = some (.num 14) := rfl
def numB (b : Bdy) (k : Nat) : Int := match k with
  | 0 => b.id
  | 1 => b.min
  | 2 => b.max
  | 3 => b.chosen
  | 4 => b.flags
  | 5 => b.cost
  | 6 => b.priority
  | 7 => b.deadline
  | 8 => b.retry
  | 9 => b.epoch
  | 10 => b.base
  | 11 => b.digest
  | 12 => b.lag
  | 13 => b.code
  | _ => b.want
def zz (x : Int) : Int := if 0 ≤ x then 2 * x else -2 * x - 1
def valP (b : Bdy) : Pl → Int × List UInt8
  | .rem => (zz b.remaining, [])
  | .allow => (if b.allowed = true then 1 else 0, [])
  | .name => (0, b.name)
  | .region => (0, b.region)
  | .note => (0, b.note)
  | .d => (0, if b.d = [] then [] else keyF b.d)
  | .t => (0, if b.t = [] then [] else (putK b.t).1)
  | .num k => (numB b k, [])
def useP : Pl → Int
  | .num _ => 0
  | .allow => 1
  | .rem => 2
  | .d => 4
  | .t => 5
  | _ => 3
/-- A cascade over all names. -/
theorem by_name {Q : List UInt8 → Prop} (h_remaining : Q n_remaining) (h_allowed : Q n_allowed) (h_name : Q n_name) (h_region : Q n_region) (h_note : Q n_note) (h_descr : Q n_descr) (h_table : Q n_table) (h_id : Q n_id) (h_min : Q n_min) (h_max : Q n_max) (h_chosen : Q n_chosen) (h_flags : Q n_flags) (h_cost : Q n_cost) (h_priority : Q n_priority) (h_deadline : Q n_deadline) (h_retry : Q n_retry) (h_epoch : Q n_epoch) (h_base : Q n_base) (h_digest : Q n_digest) (h_lag : Q n_lag) (h_code : Q n_code) (h_want : Q n_want) (h0 : ∀ n, ¬ n = n_remaining → ¬ n = n_allowed → ¬ n = n_name → ¬ n = n_region → ¬ n = n_note → ¬ n = n_descr → ¬ n = n_table → ¬ n = n_id → ¬ n = n_min → ¬ n = n_max → ¬ n = n_chosen → ¬ n = n_flags → ¬ n = n_cost → ¬ n = n_priority → ¬ n = n_deadline → ¬ n = n_retry → ¬ n = n_epoch → ¬ n = n_base → ¬ n = n_digest → ¬ n = n_lag → ¬ n = n_code → ¬ n = n_want → Q n) (n : List UInt8) : Q n := by
  by_cases e_remaining : n = n_remaining
  · rw [e_remaining]; exact h_remaining
  by_cases e_allowed : n = n_allowed
  · rw [e_allowed]; exact h_allowed
  by_cases e_name : n = n_name
  · rw [e_name]; exact h_name
  by_cases e_region : n = n_region
  · rw [e_region]; exact h_region
  by_cases e_note : n = n_note
  · rw [e_note]; exact h_note
  by_cases e_descr : n = n_descr
  · rw [e_descr]; exact h_descr
  by_cases e_table : n = n_table
  · rw [e_table]; exact h_table
  by_cases e_id : n = n_id
  · rw [e_id]; exact h_id
  by_cases e_min : n = n_min
  · rw [e_min]; exact h_min
  by_cases e_max : n = n_max
  · rw [e_max]; exact h_max
  by_cases e_chosen : n = n_chosen
  · rw [e_chosen]; exact h_chosen
  by_cases e_flags : n = n_flags
  · rw [e_flags]; exact h_flags
  by_cases e_cost : n = n_cost
  · rw [e_cost]; exact h_cost
  by_cases e_priority : n = n_priority
  · rw [e_priority]; exact h_priority
  by_cases e_deadline : n = n_deadline
  · rw [e_deadline]; exact h_deadline
  by_cases e_retry : n = n_retry
  · rw [e_retry]; exact h_retry
  by_cases e_epoch : n = n_epoch
  · rw [e_epoch]; exact h_epoch
  by_cases e_base : n = n_base
  · rw [e_base]; exact h_base
  by_cases e_digest : n = n_digest
  · rw [e_digest]; exact h_digest
  by_cases e_lag : n = n_lag
  · rw [e_lag]; exact h_lag
  by_cases e_code : n = n_code
  · rw [e_code]; exact h_code
  by_cases e_want : n = n_want
  · rw [e_want]; exact h_want
  exact h0 n e_remaining e_allowed e_name e_region e_note e_descr e_table e_id e_min e_max e_chosen e_flags e_cost e_priority e_deadline e_retry e_epoch e_base e_digest e_lag e_code e_want
theorem pl_none (n : List UInt8) (e0 : ¬ n = n_remaining) (e1 : ¬ n = n_allowed) (e2 : ¬ n = n_name) (e3 : ¬ n = n_region) (e4 : ¬ n = n_note) (e5 : ¬ n = n_descr) (e6 : ¬ n = n_table) (e7 : ¬ n = n_id) (e8 : ¬ n = n_min) (e9 : ¬ n = n_max) (e10 : ¬ n = n_chosen) (e11 : ¬ n = n_flags) (e12 : ¬ n = n_cost) (e13 : ¬ n = n_priority) (e14 : ¬ n = n_deadline) (e15 : ¬ n = n_retry) (e16 : ¬ n = n_epoch) (e17 : ¬ n = n_base) (e18 : ¬ n = n_digest) (e19 : ¬ n = n_lag) (e20 : ¬ n = n_code) (e21 : ¬ n = n_want) : placeOf n = none := by
  unfold placeOf
  rw [if_neg e0, if_neg e1, if_neg e2, if_neg e3, if_neg e4, if_neg e5, if_neg e6, if_neg e7, if_neg e8, if_neg e9, if_neg e10, if_neg e11, if_neg e12, if_neg e13, if_neg e14, if_neg e15, if_neg e16, if_neg e17, if_neg e18, if_neg e19, if_neg e20, if_neg e21]
theorem rnames83 : TT.lim 84 [] = some [.l (namesL.map .s)] := by
  refine fn_lim rfl rfl ?_ rfl
  simp [namesL]
def findU (l : List Spc) (n : List UInt8) : Option Int := match l with
  | [] => none
  | s :: l => if s.name = n then some s.use else findU l n
def useFrom : Nat → Int → List UInt8 → Option Int
  | 0, _, _ => none
  | m + 1, k, n => match findU (specsF k) n with
    | some u => some u
    | none => useFrom m (k + 1) n
def useN (n : List UInt8) : Int := match placeOf n with
  | some p => useP p
  | none => -1
theorem use00 (n : List UInt8) (a1 : GV) (l : List Spc) (hlen : l.length ≤ 1000) : ∀ (m i : Nat), i + m = l.length →
    TT.lim 90 [.s n, a1, .l (l.map spc), .i .i64 l.length, .i .i64 i] = some (match findU (l.drop i) n with | some u => [.i .i64 0, .i .i64 u] | none => [.i .i64 1])
  | 0, i, hi => by
    have h0 : l.drop i = [] := List.drop_eq_nil_of_le (by omega)
    refine tree_lim rfl rfl ?_
    have h : ¬ ((i : Int) < l.length) := by omega
    simp [h, h0, findU]
  | m + 1, i, hi => by
    have hlt : i < l.length := by omega
    have ih := use00 n a1 l hlen m (i + 1) (by omega)
    have hcast : ((i : Int) + 1) = ((i + 1 : Nat) : Int) := by omega
    rw [← hcast] at ih
    have h1 : ((i : Int) < l.length) := by omega
    have hw := wrap64 (n := (i : Int) + 1) (by omega) (by omega)
    rw [List.drop_eq_getElem_cons hlt]
    refine tree_lim rfl rfl ?_
    by_cases hc : l[i].name = n
    · simp only [findU, if_pos hc]
      simp [h1, hlt, hc]
    · simp only [findU, if_neg hc]
      simp [h1, hlt, hc, hw, ih]
theorem use0 (n : List UInt8) : ∀ (m : Nat) (k : Int), k + m = 9 → 1 ≤ k →
    TT.lim 88 [.s n, .i .i64 k] = some (match useFrom m k n with | some u => [.i .i64 0, .i .i64 u] | none => [.i .i64 1])
  | 0, k, hk, h1 => by
    have : ¬ k ≤ 8 := by omega
    refine tree_lim rfl rfl ?_
    simp [this, useFrom]
  | m + 1, k, hk, h1 => by
    have h8 : k ≤ 8 := by omega
    have hw := wrap64 (n := k + 1) (by omega) (by omega)
    have hs := rspecs_ok k
    have ih := use0 n m (k + 1) (by omega) (by omega)
    have hu : TT.lim 90 [.s n, .i .i64 k, .l ((specsF k).map spc), .i .i64 (specsF k).length, .i .i64 0] = _ := use00 n (.i .i64 k) (specsF k) (by have := sp_len k; omega) (specsF k).length 0 (by omega)
    rw [List.drop_zero] at hu
    have he : useFrom (m + 1) k n = match findU (specsF k) n with | some u => some u | none => useFrom m (k + 1) n := rfl
    rw [he]
    generalize specsF k = l at *
    cases hf : findU l n with
    | some u =>
      rw [hf] at hu
      refine tree_lim rfl rfl ?_
      simp [h8, hs, hu]
    | none =>
      rw [hf] at hu
      refine tree_lim rfl rfl ?_
      simp [h8, hs, hu, hw, ih]
theorem uf_remaining : useFrom 8 1 n_remaining = some (useP .rem) := by unfold n_remaining; decide
theorem uf_allowed : useFrom 8 1 n_allowed = some (useP .allow) := by unfold n_allowed; decide
theorem uf_name : useFrom 8 1 n_name = some (useP .name) := by unfold n_name; decide
theorem uf_region : useFrom 8 1 n_region = some (useP .region) := by unfold n_region; decide
theorem uf_note : useFrom 8 1 n_note = some (useP .note) := by unfold n_note; decide
theorem uf_descr : useFrom 8 1 n_descr = some (useP .d) := by unfold n_descr; decide
theorem uf_table : useFrom 8 1 n_table = some (useP .t) := by unfold n_table; decide
theorem uf_id : useFrom 8 1 n_id = some (useP (.num 0)) := by unfold n_id; decide
theorem uf_min : useFrom 8 1 n_min = some (useP (.num 1)) := by unfold n_min; decide
theorem uf_max : useFrom 8 1 n_max = some (useP (.num 2)) := by unfold n_max; decide
theorem uf_chosen : useFrom 8 1 n_chosen = some (useP (.num 3)) := by unfold n_chosen; decide
theorem uf_flags : useFrom 8 1 n_flags = some (useP (.num 4)) := by unfold n_flags; decide
theorem uf_cost : useFrom 8 1 n_cost = some (useP (.num 5)) := by unfold n_cost; decide
theorem uf_priority : useFrom 8 1 n_priority = some (useP (.num 6)) := by unfold n_priority; decide
theorem uf_deadline : useFrom 8 1 n_deadline = some (useP (.num 7)) := by unfold n_deadline; decide
theorem uf_retry : useFrom 8 1 n_retry = some (useP (.num 8)) := by unfold n_retry; decide
theorem uf_epoch : useFrom 8 1 n_epoch = some (useP (.num 9)) := by unfold n_epoch; decide
theorem uf_base : useFrom 8 1 n_base = some (useP (.num 10)) := by unfold n_base; decide
theorem uf_digest : useFrom 8 1 n_digest = some (useP (.num 11)) := by unfold n_digest; decide
theorem uf_lag : useFrom 8 1 n_lag = some (useP (.num 12)) := by unfold n_lag; decide
theorem uf_code : useFrom 8 1 n_code = some (useP (.num 13)) := by unfold n_code; decide
theorem uf_want : useFrom 8 1 n_want = some (useP (.num 14)) := by unfold n_want; decide
theorem uf_none (n : List UInt8) (e0 : ¬ n = n_remaining) (e1 : ¬ n = n_allowed) (e2 : ¬ n = n_name) (e3 : ¬ n = n_region) (e4 : ¬ n = n_note) (e5 : ¬ n = n_descr) (e6 : ¬ n = n_table) (e7 : ¬ n = n_id) (e8 : ¬ n = n_min) (e9 : ¬ n = n_max) (e10 : ¬ n = n_chosen) (e11 : ¬ n = n_flags) (e12 : ¬ n = n_cost) (e13 : ¬ n = n_priority) (e14 : ¬ n = n_deadline) (e15 : ¬ n = n_retry) (e16 : ¬ n = n_epoch) (e17 : ¬ n = n_base) (e18 : ¬ n = n_digest) (e19 : ¬ n = n_lag) (e20 : ¬ n = n_code) (e21 : ¬ n = n_want) : useFrom 8 1 n = none := by
  have hh : ∀ k s, s ∈ specsF k → ¬ s.name = n := by
    intro k s hs e
    have h1 := pl_none n e0 e1 e2 e3 e4 e5 e6 e7 e8 e9 e10 e11 e12 e13 e14 e15 e16 e17 e18 e19 e20 e21
    rw [← e] at h1
    have key : ∀ s ∈ specsF k, placeOf s.name ≠ none := by
      unfold specsF
      repeat' split
      all_goals first | (unfold sp1; decide) | (unfold sp2; decide) | (unfold sp3; decide) | (unfold sp4; decide) | (unfold sp5; decide) | (unfold sp6; decide) | (unfold sp7; decide) | (unfold sp8; decide) | (intro s hs; cases hs)
    exact key s hs h1
  have hf : ∀ (l : List Spc), (∀ s ∈ l, ¬ s.name = n) → findU l n = none := by
    intro l
    induction l with
    | nil => intro _; rfl
    | cons s l ih => intro h; simp only [findU]; rw [if_neg (h s (by simp))]; exact ih fun s hs => h s (by simp [hs])
  have hk : ∀ k, findU (specsF k) n = none := fun k => hf _ fun s hs => hh k s hs
  simp only [useFrom, hk]
theorem use_ok (n : List UInt8) : TT.lim 87 [.s n] = some [.i .i64 (useN n)] := by
  have hu : ∀ o, useFrom 8 1 n = o → TT.lim 87 [.s n] = some [.i .i64 (match o with | some u => u | none => -1)] := by
    intro o ho
    have h0 := use0 n 8 1 (by omega) (by omega)
    rw [ho] at h0
    refine fn_lim rfl rfl ?_ rfl
    cases o with
    | some u => simp [h0]
    | none => simp [h0]
  have hv : useFrom 8 1 n = (match placeOf n with | some p => some (useP p) | none => none) := by
    refine by_name (Q := fun n => useFrom 8 1 n = (match placeOf n with | some p => some (useP p) | none => none)) (by rw [pl_remaining]; exact uf_remaining) (by rw [pl_allowed]; exact uf_allowed) (by rw [pl_name]; exact uf_name) (by rw [pl_region]; exact uf_region) (by rw [pl_note]; exact uf_note) (by rw [pl_descr]; exact uf_descr) (by rw [pl_table]; exact uf_table) (by rw [pl_id]; exact uf_id) (by rw [pl_min]; exact uf_min) (by rw [pl_max]; exact uf_max) (by rw [pl_chosen]; exact uf_chosen) (by rw [pl_flags]; exact uf_flags) (by rw [pl_cost]; exact uf_cost) (by rw [pl_priority]; exact uf_priority) (by rw [pl_deadline]; exact uf_deadline) (by rw [pl_retry]; exact uf_retry) (by rw [pl_epoch]; exact uf_epoch) (by rw [pl_base]; exact uf_base) (by rw [pl_digest]; exact uf_digest) (by rw [pl_lag]; exact uf_lag) (by rw [pl_code]; exact uf_code) (by rw [pl_want]; exact uf_want) (fun n e0 e1 e2 e3 e4 e5 e6 e7 e8 e9 e10 e11 e12 e13 e14 e15 e16 e17 e18 e19 e20 e21 => by rw [pl_none n e0 e1 e2 e3 e4 e5 e6 e7 e8 e9 e10 e11 e12 e13 e14 e15 e16 e17 e18 e19 e20 e21]; exact uf_none n e0 e1 e2 e3 e4 e5 e6 e7 e8 e9 e10 e11 e12 e13 e14 e15 e16 e17 e18 e19 e20 e21) n
  have := hu _ hv
  rw [this]
  unfold useN
  cases placeOf n <;> rfl
theorem use_pl {n : List UInt8} {p : Pl} (h : placeOf n = some p) : TT.lim 87 [.s n] = some [.i .i64 (useP p)] := by
  have hu := use_ok n
  unfold useN at hu
  rw [h] at hu
  exact hu
def RVal (b : Bdy) (r : List GV) (n : List UInt8) (p : Pl) : Prop := TT.lim 86 [msgG b r, .s n] = some [.i .u64 (valP b p).1, .s (valP b p).2]
theorem rnum_id (b : Bdy) (r : List GV) : TT.lim 91 [msgG b r, .s n_id] = some [.i .u64 (numB b 0)] := by
  have e : numB b 0 = b.id := rfl
  rw [e]
  unfold n_id
  refine fn_lim rfl rfl ?_ rfl
  simp
theorem rnum_min (b : Bdy) (r : List GV) : TT.lim 91 [msgG b r, .s n_min] = some [.i .u64 (numB b 1)] := by
  have e : numB b 1 = b.min := rfl
  rw [e]
  unfold n_min
  refine fn_lim rfl rfl ?_ rfl
  simp
theorem rnum_max (b : Bdy) (r : List GV) : TT.lim 91 [msgG b r, .s n_max] = some [.i .u64 (numB b 2)] := by
  have e : numB b 2 = b.max := rfl
  rw [e]
  unfold n_max
  refine fn_lim rfl rfl ?_ rfl
  simp
theorem rnum_chosen (b : Bdy) (r : List GV) : TT.lim 91 [msgG b r, .s n_chosen] = some [.i .u64 (numB b 3)] := by
  have e : numB b 3 = b.chosen := rfl
  rw [e]
  unfold n_chosen
  refine fn_lim rfl rfl ?_ rfl
  simp
theorem rnum_flags (b : Bdy) (r : List GV) : TT.lim 91 [msgG b r, .s n_flags] = some [.i .u64 (numB b 4)] := by
  have e : numB b 4 = b.flags := rfl
  rw [e]
  unfold n_flags
  refine fn_lim rfl rfl ?_ rfl
  simp
theorem rnum_cost (b : Bdy) (r : List GV) : TT.lim 91 [msgG b r, .s n_cost] = some [.i .u64 (numB b 5)] := by
  have e : numB b 5 = b.cost := rfl
  rw [e]
  unfold n_cost
  refine fn_lim rfl rfl ?_ rfl
  simp
theorem rnum_priority (b : Bdy) (r : List GV) : TT.lim 91 [msgG b r, .s n_priority] = some [.i .u64 (numB b 6)] := by
  have e : numB b 6 = b.priority := rfl
  rw [e]
  unfold n_priority
  refine fn_lim rfl rfl ?_ rfl
  simp
theorem rnum_deadline (b : Bdy) (r : List GV) : TT.lim 91 [msgG b r, .s n_deadline] = some [.i .u64 (numB b 7)] := by
  have e : numB b 7 = b.deadline := rfl
  rw [e]
  unfold n_deadline
  refine fn_lim rfl rfl ?_ rfl
  simp
theorem rnum_retry (b : Bdy) (r : List GV) : TT.lim 91 [msgG b r, .s n_retry] = some [.i .u64 (numB b 8)] := by
  have e : numB b 8 = b.retry := rfl
  rw [e]
  unfold n_retry
  refine fn_lim rfl rfl ?_ rfl
  simp
theorem rnum_epoch (b : Bdy) (r : List GV) : TT.lim 91 [msgG b r, .s n_epoch] = some [.i .u64 (numB b 9)] := by
  have e : numB b 9 = b.epoch := rfl
  rw [e]
  unfold n_epoch
  refine fn_lim rfl rfl ?_ rfl
  simp
theorem rnum_base (b : Bdy) (r : List GV) : TT.lim 91 [msgG b r, .s n_base] = some [.i .u64 (numB b 10)] := by
  have e : numB b 10 = b.base := rfl
  rw [e]
  unfold n_base
  refine fn_lim rfl rfl ?_ rfl
  simp
theorem rnum_digest (b : Bdy) (r : List GV) : TT.lim 91 [msgG b r, .s n_digest] = some [.i .u64 (numB b 11)] := by
  have e : numB b 11 = b.digest := rfl
  rw [e]
  unfold n_digest
  refine fn_lim rfl rfl ?_ rfl
  simp
theorem rnum_lag (b : Bdy) (r : List GV) : TT.lim 91 [msgG b r, .s n_lag] = some [.i .u64 (numB b 12)] := by
  have e : numB b 12 = b.lag := rfl
  rw [e]
  unfold n_lag
  refine fn_lim rfl rfl ?_ rfl
  simp
theorem rnum_code (b : Bdy) (r : List GV) : TT.lim 91 [msgG b r, .s n_code] = some [.i .u64 (numB b 13)] := by
  have e : numB b 13 = b.code := rfl
  rw [e]
  unfold n_code
  refine fn_lim rfl rfl ?_ rfl
  simp
theorem rnum_want (b : Bdy) (r : List GV) : TT.lim 91 [msgG b r, .s n_want] = some [.i .u64 (numB b 14)] := by
  have e : numB b 14 = b.want := rfl
  rw [e]
  unfold n_want
  refine fn_lim rfl rfl ?_ rfl
  simp
theorem rword_name (b : Bdy) (r : List GV) : TT.lim 92 [msgG b r, .s n_name] = some [.s b.name] := by
  unfold n_name
  refine fn_lim rfl rfl ?_ rfl
  simp
theorem rword_region (b : Bdy) (r : List GV) : TT.lim 92 [msgG b r, .s n_region] = some [.s b.region] := by
  unfold n_region
  refine fn_lim rfl rfl ?_ rfl
  simp
theorem rword_note (b : Bdy) (r : List GV) : TT.lim 92 [msgG b r, .s n_note] = some [.s b.note] := by
  unfold n_note
  refine fn_lim rfl rfl ?_ rfl
  simp
theorem rval_id (b : Bdy) (r : List GV) : RVal b r n_id (.num 0) := by
  have hu := use_pl pl_id
  unfold RVal
  have hn := rnum_id b r
  have hu : TT.lim 87 [.s n_id] = some [.i .i64 0] := hu
  refine fn_lim rfl rfl ?_ rfl
  simp [hu, msgG_fold, hn, valP]
theorem rval_min (b : Bdy) (r : List GV) : RVal b r n_min (.num 1) := by
  have hu := use_pl pl_min
  unfold RVal
  have hn := rnum_min b r
  have hu : TT.lim 87 [.s n_min] = some [.i .i64 0] := hu
  refine fn_lim rfl rfl ?_ rfl
  simp [hu, msgG_fold, hn, valP]
theorem rval_max (b : Bdy) (r : List GV) : RVal b r n_max (.num 2) := by
  have hu := use_pl pl_max
  unfold RVal
  have hn := rnum_max b r
  have hu : TT.lim 87 [.s n_max] = some [.i .i64 0] := hu
  refine fn_lim rfl rfl ?_ rfl
  simp [hu, msgG_fold, hn, valP]
theorem rval_chosen (b : Bdy) (r : List GV) : RVal b r n_chosen (.num 3) := by
  have hu := use_pl pl_chosen
  unfold RVal
  have hn := rnum_chosen b r
  have hu : TT.lim 87 [.s n_chosen] = some [.i .i64 0] := hu
  refine fn_lim rfl rfl ?_ rfl
  simp [hu, msgG_fold, hn, valP]
theorem rval_flags (b : Bdy) (r : List GV) : RVal b r n_flags (.num 4) := by
  have hu := use_pl pl_flags
  unfold RVal
  have hn := rnum_flags b r
  have hu : TT.lim 87 [.s n_flags] = some [.i .i64 0] := hu
  refine fn_lim rfl rfl ?_ rfl
  simp [hu, msgG_fold, hn, valP]
theorem rval_cost (b : Bdy) (r : List GV) : RVal b r n_cost (.num 5) := by
  have hu := use_pl pl_cost
  unfold RVal
  have hn := rnum_cost b r
  have hu : TT.lim 87 [.s n_cost] = some [.i .i64 0] := hu
  refine fn_lim rfl rfl ?_ rfl
  simp [hu, msgG_fold, hn, valP]
theorem rval_priority (b : Bdy) (r : List GV) : RVal b r n_priority (.num 6) := by
  have hu := use_pl pl_priority
  unfold RVal
  have hn := rnum_priority b r
  have hu : TT.lim 87 [.s n_priority] = some [.i .i64 0] := hu
  refine fn_lim rfl rfl ?_ rfl
  simp [hu, msgG_fold, hn, valP]
theorem rval_deadline (b : Bdy) (r : List GV) : RVal b r n_deadline (.num 7) := by
  have hu := use_pl pl_deadline
  unfold RVal
  have hn := rnum_deadline b r
  have hu : TT.lim 87 [.s n_deadline] = some [.i .i64 0] := hu
  refine fn_lim rfl rfl ?_ rfl
  simp [hu, msgG_fold, hn, valP]
theorem rval_retry (b : Bdy) (r : List GV) : RVal b r n_retry (.num 8) := by
  have hu := use_pl pl_retry
  unfold RVal
  have hn := rnum_retry b r
  have hu : TT.lim 87 [.s n_retry] = some [.i .i64 0] := hu
  refine fn_lim rfl rfl ?_ rfl
  simp [hu, msgG_fold, hn, valP]
theorem rval_epoch (b : Bdy) (r : List GV) : RVal b r n_epoch (.num 9) := by
  have hu := use_pl pl_epoch
  unfold RVal
  have hn := rnum_epoch b r
  have hu : TT.lim 87 [.s n_epoch] = some [.i .i64 0] := hu
  refine fn_lim rfl rfl ?_ rfl
  simp [hu, msgG_fold, hn, valP]
theorem rval_base (b : Bdy) (r : List GV) : RVal b r n_base (.num 10) := by
  have hu := use_pl pl_base
  unfold RVal
  have hn := rnum_base b r
  have hu : TT.lim 87 [.s n_base] = some [.i .i64 0] := hu
  refine fn_lim rfl rfl ?_ rfl
  simp [hu, msgG_fold, hn, valP]
theorem rval_digest (b : Bdy) (r : List GV) : RVal b r n_digest (.num 11) := by
  have hu := use_pl pl_digest
  unfold RVal
  have hn := rnum_digest b r
  have hu : TT.lim 87 [.s n_digest] = some [.i .i64 0] := hu
  refine fn_lim rfl rfl ?_ rfl
  simp [hu, msgG_fold, hn, valP]
theorem rval_lag (b : Bdy) (r : List GV) : RVal b r n_lag (.num 12) := by
  have hu := use_pl pl_lag
  unfold RVal
  have hn := rnum_lag b r
  have hu : TT.lim 87 [.s n_lag] = some [.i .i64 0] := hu
  refine fn_lim rfl rfl ?_ rfl
  simp [hu, msgG_fold, hn, valP]
theorem rval_code (b : Bdy) (r : List GV) : RVal b r n_code (.num 13) := by
  have hu := use_pl pl_code
  unfold RVal
  have hn := rnum_code b r
  have hu : TT.lim 87 [.s n_code] = some [.i .i64 0] := hu
  refine fn_lim rfl rfl ?_ rfl
  simp [hu, msgG_fold, hn, valP]
theorem rval_want (b : Bdy) (r : List GV) : RVal b r n_want (.num 14) := by
  have hu := use_pl pl_want
  unfold RVal
  have hn := rnum_want b r
  have hu : TT.lim 87 [.s n_want] = some [.i .i64 0] := hu
  refine fn_lim rfl rfl ?_ rfl
  simp [hu, msgG_fold, hn, valP]
theorem rval_allowed (b : Bdy) (r : List GV) : RVal b r n_allowed .allow := by
  have hu := use_pl pl_allowed
  unfold RVal
  have hu : TT.lim 87 [.s n_allowed] = some [.i .i64 1] := hu
  refine fn_lim rfl rfl ?_ rfl
  cases hc : b.allowed <;> simp [hu, valP, hc]
theorem rval_remaining (b : Bdy) (r : List GV) (hb : BdyOk b) : RVal b r n_remaining .rem := by
  have hu := use_pl pl_remaining
  unfold RVal
  have hu : TT.lim 87 [.s n_remaining] = some [.i .i64 2] := hu
  have hx := hb.remaining
  refine fn_lim rfl rfl ?_ rfl
  by_cases hc : 0 ≤ b.remaining
  · have w1 := wrapu64 (n := b.remaining) (by omega) (by omega)
    have w2 := wrapu64 (n := 2 * b.remaining) (by omega) (by omega)
    simp [hu, valP, zz, hc, w1, w2]
  · have w0 := wrap64 (n := b.remaining + 1) (by omega) (by omega)
    have w00 := wrap64 (n := 0 - (b.remaining + 1)) (by omega) (by omega)
    have w1 := wrapu64 (n := 0 - (b.remaining + 1)) (by omega) (by omega)
    have w2 := wrapu64 (n := 0 - (b.remaining + 1) + 1) (by omega) (by omega)
    have w3 := wrapu64 (n := 0 - (b.remaining + 1) + 1 - 1) (by omega) (by omega)
    have w4 := wrapu64 (n := 2 * (0 - (b.remaining + 1) + 1 - 1)) (by omega) (by omega)
    have w5 := wrapu64 (n := 2 * (0 - (b.remaining + 1) + 1 - 1) + 1) (by omega) (by omega)
    have e : 2 * (0 - (b.remaining + 1) + 1 - 1) + 1 = -2 * b.remaining - 1 := by omega
    have hz : zz b.remaining = 2 * (0 - (b.remaining + 1) + 1 - 1) + 1 := by unfold zz; rw [if_neg hc, e]
    have hv : valP b .rem = (zz b.remaining, []) := rfl
    rw [hv, hz]
    simp only [Nat.reduceAdd] at *
    simp [-Int.add_sub_cancel, -Int.zero_sub, hu, hc, w0, w00, w1, w2, w3, w4, w5]
theorem rval_name (b : Bdy) (r : List GV) : RVal b r n_name .name := by
  have hu := use_pl pl_name
  unfold RVal
  have hn := rword_name b r
  have hu : TT.lim 87 [.s n_name] = some [.i .i64 3] := hu
  refine fn_lim rfl rfl ?_ rfl
  simp [hu, msgG_fold, hn, valP]
theorem rval_region (b : Bdy) (r : List GV) : RVal b r n_region .region := by
  have hu := use_pl pl_region
  unfold RVal
  have hn := rword_region b r
  have hu : TT.lim 87 [.s n_region] = some [.i .i64 3] := hu
  refine fn_lim rfl rfl ?_ rfl
  simp [hu, msgG_fold, hn, valP]
theorem rval_note (b : Bdy) (r : List GV) : RVal b r n_note .note := by
  have hu := use_pl pl_note
  unfold RVal
  have hn := rword_note b r
  have hu : TT.lim 87 [.s n_note] = some [.i .i64 3] := hu
  refine fn_lim rfl rfl ?_ rfl
  simp [hu, msgG_fold, hn, valP]
theorem rval_descr (b : Bdy) (r : List GV) (hf : few12 b.d = true) : RVal b r n_descr .d := by
  have hu := use_pl pl_descr
  unfold RVal
  have hu : TT.lim 87 [.s n_descr] = some [.i .i64 4] := hu
  have hk := key74 b.d hf
  refine fn_lim rfl rfl ?_ rfl
  by_cases e : b.d = []
  · simp [hu, valP, e]
  · simp [hu, valP, e, hk]
theorem rval_table (b : Bdy) (r : List GV) (hb : BdyOk b) (hf : Few b.t) : RVal b r n_table .t := by
  have hu := use_pl pl_table
  unfold RVal
  have hu : TT.lim 87 [.s n_table] = some [.i .i64 5] := hu
  have hk := rkputP b.t hb.t hf
  refine fn_lim rfl rfl ?_ rfl
  by_cases e : b.t = []
  · simp [hu, valP, e]
  · simp [hu, valP, e, hk]
theorem of08_all : ∀ (N : Nat) (l : List Fld), szL l < N → fldsOk l → l.length ≤ 1000000 → TT.lim 81 [.l (fldsG l)] = some [.l (fldsG l)]
  | 0, l, h, _, _ => by omega
  | N + 1, l, hN, hok, hlen => by
    have loop : ∀ m i, i + m = l.length → TT.lim 82 [.l ((fldsG l).take i), .l (fldsG l), .i .i64 l.length, .i .i64 i] = some [.i .i64 0, .l (fldsG l)] := by
      intro m
      induction m with
      | zero =>
        intro i hi
        have h0 : (fldsG l).take i = fldsG l := List.take_of_length_le (by rw [fldsG_len]; omega)
        rw [h0]
        refine tree_lim rfl rfl ?_
        have h : ¬ ((i : Int) < l.length) := by omega
        simp [h]
      | succ m ih =>
        intro i hi
        have hlt : i < l.length := by omega
        have hf := fldsOk_mem hok l[i] (List.getElem_mem hlt)
        have hs := szL_mem (List.getElem_mem hlt)
        have hget : (fldsG l)[i]? = some (fldG l[i]) := by rw [fldsG_map, List.getElem?_map, List.getElem?_eq_getElem hlt]; rfl
        have hcast : ((i : Int) + 1) = ((i + 1 : Nat) : Int) := by omega
        have ih' := ih (i + 1) (by omega)
        have htk : (fldsG l).take (i + 1) = (fldsG l).take i ++ [fldG l[i]] := by
          rw [List.take_add_one, hget]; rfl
        rw [htk, ← hcast] at ih'
        clear htk
        obtain ⟨t, y, n, s, k, hfi⟩ : ∃ t y n s k, l[i] = Fld.mk t y n s k := by
          cases l[i] with
          | mk t y n s k => exact ⟨_, _, _, _, _, rfl⟩
        rw [hfi] at hget hf hs ih'
        simp only [fldOk] at hf
        simp only [szF] at hs
        have hwr := wrap64 (n := (i : Int) + 1) (by omega) (by omega)
        have h : ((i : Int) < l.length) := by omega
        have hk := of08_all N k (by omega) hf.2 hf.1.2.2.2.2.2.2.2
        have hfold : GV.g [.i .u64 t, .i .i64 y, .i .u64 n, .s s, .l (fldsG k)] = fldG (.mk t y n s k) := by simp only [fldG]
        have hel : (fldG (.mk t y n s k)).elemOk 5 = true := by simp only [fldG]; rfl
        have hl0 : ((fldsG l).take i).length = i := by rw [List.length_take, fldsG_len]; omega
        have hb1 : 2 * (((fldsG l).take i).length + 1) * 64 ≤ 281474976710656 := by rw [hl0]; omega
        have hb2 : ((fldsG l).take i).length ≤ 281474976710655 := by rw [hl0]; omega
        generalize (fldsG l).take i = acc at *
        refine tree_lim rfl rfl ?_
        simp [h, hget, hk, hfold, hel, hb1, hb2, hwr, ih']
    have h0 := loop l.length 0 (by omega)
    have hl2 := fldsG_len l
    have h0' : TT.lim 82 [.l [], .l (fldsG l), .i .i64 (fldsG l).length, .i .i64 0] = some [.i .i64 0, .l (fldsG l)] := by rw [hl2]; exact h0
    refine fn_lim rfl rfl ?_ rfl
    simp [h0']
theorem of18_ok (b : Bdy) (fl : List Fld) (hd : b.d.length ≤ 40) (ht : GoodT b.t) (hok : fldsOk fl) (hlen : fl.length ≤ 1000000) : TT.lim 80 [msgG b (fldsG fl)] = some [msgG b (fldsG fl)] := by
  have h1 := to56 b.d hd
  have h2 := to54 b.t ht
  have h3 := of08_all (szL fl + 1) fl (by omega) hok hlen
  refine fn_lim rfl rfl ?_ rfl
  simp [h1, h2, h3, msgG_fold]
abbrev It := Int × Int × List UInt8
def ltI (a b : It) : Bool := if a.1 = b.1 then decide (a.2.1 < b.2.1) else decide (a.1 < b.1)
def leI (a b : It) : Prop := ltI b a = false
def dI : It := (0, 0, [])
abbrev at_ (h : List It) (i : Nat) : It := h.getD i dI
def par (k : Nat) : Nat := (k - 1) / 2
def Heap (h : List It) (n : Nat) : Prop := ∀ k, 0 < k → k < n → leI (at_ h (par k)) (at_ h k)
structure Sim (h L : List It) (n : Int) : Prop where
  heap : Heap h h.length
  perm : L.Perm h
  srt : L.Pairwise (fun x y => ltI x y = true)
  low : ∀ x ∈ L, x.2.1 < n
theorem Sim.len {h L : List It} {n : Int} (s : Sim h L n) : h.length = L.length := s.perm.length_eq.symm
end X
end Go.Proofs.YtbcpbplkgknnmaaGreatDoor
