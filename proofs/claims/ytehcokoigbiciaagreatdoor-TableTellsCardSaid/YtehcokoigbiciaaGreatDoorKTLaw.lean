/- TableTells: its callees' answers, and the law. -/
import Derived.Test.YtehcokoigbiciaaGreatDoorKWZ
import Derived.Test.YtehcokoigbiciaaGreatDoorKWe1
import Derived.Test.YtehcokoigbiciaaGreatDoorKTWalk
namespace Go.Proofs.YtehcokoigbiciaaGreatDoor
open Go Go.Abs
set_option maxRecDepth 100000
set_option linter.unusedVariables false
namespace W
theorem awakeC (ro : Nat → Option Obj) (w : World) (h : RoOk tabsL ro w) : CallN Tryz.prog 4 ⟨[]⟩ w fun v w' => v = .bool true ∧ Kept w w' := by
  obtain ⟨σ', hs⟩ := isT_some run13
  exact closed_run (call_ok pl12_ok 1000000) σ0_start hs h
theorem ofR_len (l : List Row) : (ofR l).1.length ≤ l.length ∧ (ofR l).1.length ≤ 256 := by
  unfold ofR
  by_cases h1 : 256 < l.length
  · rw [if_pos h1]; simp
  rw [if_neg h1]
  have hs := (sortR_perm l).length_eq
  by_cases h2 : firstErr l = 0
  · rw [if_pos h2]
    cases adjDup (sortR l) with
    | true => simp
    | false => simp only [Bool.false_eq_true, if_false]; omega
  · rw [if_neg h2]; simp
theorem few_len {l : List Row} (h : few13 l = true) : l.length ≤ 300 := by
  unfold few13 at h
  rw [Bool.and_eq_true, decide_eq_true_iff] at h
  exact h.2
theorem row_is {t : List Row} (h : Tb t) : (t.map row).all isRow = true := by
  rw [List.all_eq_true]
  intro x hx
  obtain ⟨r, hr, rfl⟩ := List.mem_map.1 hx
  have h1 := ((rowChk_iff r).1 (h.ok.2.2 r hr)).1
  have h2 := few40 (h.few r hr)
  have h3 : r.1 ≠ [] := by
    intro e
    unfold descrChk at h1
    rw [e] at h1
    simp at h1
  show (!(r.1.map ent).isEmpty && (r.1.map ent).all isEnt && decide ((r.1.map ent).length * 32 ≤ 140737488355328)) = true
  rw [Bool.and_eq_true, Bool.and_eq_true, decide_eq_true_iff, List.length_map]
  refine ⟨⟨?_, ?_⟩, by omega⟩
  · cases hr1 : r.1 with
    | nil => exact absurd hr1 h3
    | cons x l => rfl
  · rw [List.all_eq_true]
    intro y hy
    obtain ⟨e, _, rfl⟩ := List.mem_map.1 hy
    rfl
theorem tt_facts (a b : List Row) (d : List Ent) (ha : Rows a) (hb : Rows b) (hd : Ents d) (fa : few13 a = true) (fb : few13 b = true) (fd : few12 d = true) :
    TF tabsL (a.map row) (b.map row) (d.map ent) ((ofR a).1.map row) (a.map row) ((ofR a).1.map row) ((ofR a).1.map row) (b.map row) ((ofR b).1.map row) (d.map ent) ((ofR b).1.map row) (ofR a).2 (checkT a) (ofR b).2 (val (ofR a).1 (keyF d)) (decide (a = b)) (atL (ofR a).1 (ofR b).1) := by
  have la := few_len fa
  have lb := few_len fb
  have wa := few13_few fa
  have wb := few13_few fb
  obtain ⟨ta, tb⟩ := ofR_len a
  obtain ⟨ua, ub⟩ := ofR_len b
  have wt : Few (ofR a).1 := fun r hr => (few_of ha fa r hr).1
  have wu : Few (ofR b).1 := fun r hr => (few_of hb fb r hr).1
  have ra : ∀ r ∈ a, r.1.length ≤ 140737488351232 := fun r hr => (ha.2 r hr).1.1
  have rb : ∀ r ∈ b, r.1.length ≤ 140737488351232 := fun r hr => (hb.2 r hr).1.1
  have A1 := few2 a ha
  have B1 := few2 b hb
  have D1 := few4 d hd
  rw [fa] at A1
  rw [fb] at B1
  rw [fd] at D1
  have sT := same97 (ofR a).1 (ofR a).1 (by omega) wt
  rw [decide_eq_true rfl] at sT
  exact {
    awake := awakeC
    fewA := (lim_ctr 2 _ _ A1).call
    fewB := (lim_ctr 2 _ _ B1).call
    fewD := (lim_ctr 4 _ _ D1).call
    ofA := (lim_ctr 13 _ _ (of13 a ha wa)).call
    toA := (lim_ctr 24 _ _ (to_ok a la wa)).call
    rof := (lim_ctr 28 _ _ (rof_ok a la ha wa)).call
    toT := (lim_ctr 24 _ _ (to_ok _ (by omega) wt)).call
    sameT := (lim_ctr 51 _ _ sT).call
    check := (lim_ctr 54 _ _ (check37 a ha wa)).call
    rcheck := (lim_ctr 56 _ _ (check59 a ha wa)).call
    same := (lim_ctr 58 _ _ (same27 a b ha.1 hb.1 ra rb)).call
    toB := (lim_ctr 24 _ _ (to_ok b lb wb)).call
    rsame := (lim_ctr 51 _ _ (same97 a b (by omega) wa)).call
    ofB := (lim_ctr 13 _ _ (of13 b hb wb)).call
    rows := fun e _ => ⟨row_is (ofR_tb ha wa e), by rw [List.length_map]; omega⟩
    get := fun e _ => by
      have h := get35 (ofR a).1 d (by omega) hd.1 (fun r hr => (few_of ha fa r hr).2)
      rw [get_val] at h
      exact (lim_ctr 66 _ _ h).call
    toD := fun _ _ => (lim_ctr 26 _ _ (to56 d (few40 fd))).call
    rget := fun _ _ => (lim_ctr 68 _ _ (get82 (ofR a).1 d (by omega) wt fd)).call
    atl := fun _ _ => (lim_ctr 70 _ _ (atLeast24 (ofR a).1 (ofR b).1 tb ub wt wu)).call
    toU := fun _ _ => (lim_ctr 24 _ _ (to_ok _ (by omega) wu)).call
    ratl := fun e g => by
      have h := atLeast80 (ofR a).1 (ofR b).1 (by omega) wt (by omega) wu
      rw [atLF_eq (ofR_tb ha wa e) (ofR_tb hb wb g)] at h
      exact (lim_ctr 73 _ _ h).call }
theorem tt_FnC (gs : List GV) (h : hasArgs [(false, [.list true [.list true [.str, .str], .int .u64]]), (false, [.list true [.list true [.str, .str], .int .u64]]), (false, [.list true [.str, .str]])] gs) : FnC Tryz.prog tabsL 3 [] [.sc] gs [.b true] := by
  obtain ⟨a, gs, rfl, h1, h⟩ := hasA_sc h
  obtain ⟨b, gs, rfl, h2, h⟩ := hasA_sc h
  obtain ⟨d, gs, rfl, h3, h⟩ := hasA_sc h
  obtain rfl := hasA_nil h
  obtain ⟨a, ha, rfl⟩ := rows_of h1
  obtain ⟨b, hb, rfl⟩ := rows_of h2
  obtain ⟨d, hd, rfl⟩ := ttEnts h3
  refine tt_call fun va vb vd ro w hk => ?_
  cases hf : few13 a && few13 b && few12 d with
  | false => exact lawNo names awakeC (lim_ctr 2 _ _ (few2 a ha)).call (lim_ctr 2 _ _ (few2 b hb)).call (lim_ctr 4 _ _ (few4 d hd)).call hf va vb vd ro w hk
  | true =>
    simp only [Bool.and_eq_true] at hf
    exact lawWalk names (tt_facts a b d ha hb hd hf.1.1 hf.1.2 hf.2) va vb vd ro w hk
end W
end Go.Proofs.YtehcokoigbiciaaGreatDoor
