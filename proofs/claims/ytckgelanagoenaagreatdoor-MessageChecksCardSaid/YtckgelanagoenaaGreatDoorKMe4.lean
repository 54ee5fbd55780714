/- What the trees compute: plain laws. -/
import Derived.Test.YtckgelanagoenaaGreatDoorKMe3
namespace Go.Proofs.YtckgelanagoenaaGreatDoor
open Go Go.Abs
set_option linter.unusedSimpArgs false
set_option linter.unusedVariables false
set_option maxRecDepth 100000
namespace M
theorem names39 : TT.lim 39 [] = some [.l (namesL.map .s)] := prim_lim (Ds := Ds) (k := 39) (f := namesP) rfl rfl
theorem noth_of (b : Bdy) {n : List UInt8} {p : Pl} (h : placeOf n = some p) : nothB b n = nothP b p := by unfold nothB; rw [h]
def Some1 (b : Bdy) (r : List GV) (n : List UInt8) : Prop := ∃ c : Prop, (nothB b n = true ↔ c) ∧ Step1 b r n c
theorem so1_remaining (b : Bdy) (r : List GV) : Some1 b r n_remaining := ⟨_, by rw [noth_of b pl_remaining]; simp [nothP, numB], st1_remaining b r⟩
theorem so1_allowed (b : Bdy) (r : List GV) : Some1 b r n_allowed := ⟨_, by rw [noth_of b pl_allowed]; simp [nothP, numB], st1_allowed b r⟩
theorem so1_name (b : Bdy) (r : List GV) : Some1 b r n_name := ⟨_, by rw [noth_of b pl_name]; simp [nothP, numB], st1_name b r⟩
theorem so1_region (b : Bdy) (r : List GV) : Some1 b r n_region := ⟨_, by rw [noth_of b pl_region]; simp [nothP, numB], st1_region b r⟩
theorem so1_note (b : Bdy) (r : List GV) : Some1 b r n_note := ⟨_, by rw [noth_of b pl_note]; simp [nothP, numB], st1_note b r⟩
theorem so1_descr (b : Bdy) (r : List GV) : Some1 b r n_descr := ⟨_, by rw [noth_of b pl_descr]; simp [nothP, numB], st1_descr b r⟩
theorem so1_table (b : Bdy) (r : List GV) : Some1 b r n_table := ⟨_, by rw [noth_of b pl_table]; simp [nothP, numB], st1_table b r⟩
theorem so1_id (b : Bdy) (r : List GV) : Some1 b r n_id := ⟨_, by rw [noth_of b pl_id]; simp [nothP, numB], st1_id b r⟩
theorem so1_min (b : Bdy) (r : List GV) : Some1 b r n_min := ⟨_, by rw [noth_of b pl_min]; simp [nothP, numB], st1_min b r⟩
theorem so1_max (b : Bdy) (r : List GV) : Some1 b r n_max := ⟨_, by rw [noth_of b pl_max]; simp [nothP, numB], st1_max b r⟩
theorem so1_chosen (b : Bdy) (r : List GV) : Some1 b r n_chosen := ⟨_, by rw [noth_of b pl_chosen]; simp [nothP, numB], st1_chosen b r⟩
theorem so1_flags (b : Bdy) (r : List GV) : Some1 b r n_flags := ⟨_, by rw [noth_of b pl_flags]; simp [nothP, numB], st1_flags b r⟩
theorem so1_cost (b : Bdy) (r : List GV) : Some1 b r n_cost := ⟨_, by rw [noth_of b pl_cost]; simp [nothP, numB], st1_cost b r⟩
theorem so1_priority (b : Bdy) (r : List GV) : Some1 b r n_priority := ⟨_, by rw [noth_of b pl_priority]; simp [nothP, numB], st1_priority b r⟩
theorem so1_deadline (b : Bdy) (r : List GV) : Some1 b r n_deadline := ⟨_, by rw [noth_of b pl_deadline]; simp [nothP, numB], st1_deadline b r⟩
theorem so1_retry (b : Bdy) (r : List GV) : Some1 b r n_retry := ⟨_, by rw [noth_of b pl_retry]; simp [nothP, numB], st1_retry b r⟩
theorem so1_epoch (b : Bdy) (r : List GV) : Some1 b r n_epoch := ⟨_, by rw [noth_of b pl_epoch]; simp [nothP, numB], st1_epoch b r⟩
theorem so1_base (b : Bdy) (r : List GV) : Some1 b r n_base := ⟨_, by rw [noth_of b pl_base]; simp [nothP, numB], st1_base b r⟩
theorem so1_digest (b : Bdy) (r : List GV) : Some1 b r n_digest := ⟨_, by rw [noth_of b pl_digest]; simp [nothP, numB], st1_digest b r⟩
theorem so1_lag (b : Bdy) (r : List GV) : Some1 b r n_lag := ⟨_, by rw [noth_of b pl_lag]; simp [nothP, numB], st1_lag b r⟩
theorem so1_code (b : Bdy) (r : List GV) : Some1 b r n_code := ⟨_, by rw [noth_of b pl_code]; simp [nothP, numB], st1_code b r⟩
theorem so1_want (b : Bdy) (r : List GV) : Some1 b r n_want := ⟨_, by rw [noth_of b pl_want]; simp [nothP, numB], st1_want b r⟩
theorem step1_all (b : Bdy) (r : List GV) (n : List UInt8) : placeOf n ≠ none → Some1 b r n := by
  refine by_name (Q := fun n => placeOf n ≠ none → Some1 b r n) (fun _ => so1_remaining b r) (fun _ => so1_allowed b r) (fun _ => so1_name b r) (fun _ => so1_region b r) (fun _ => so1_note b r) (fun _ => so1_descr b r) (fun _ => so1_table b r) (fun _ => so1_id b r) (fun _ => so1_min b r) (fun _ => so1_max b r) (fun _ => so1_chosen b r) (fun _ => so1_flags b r) (fun _ => so1_cost b r) (fun _ => so1_priority b r) (fun _ => so1_deadline b r) (fun _ => so1_retry b r) (fun _ => so1_epoch b r) (fun _ => so1_base b r) (fun _ => so1_digest b r) (fun _ => so1_lag b r) (fun _ => so1_code b r) (fun _ => so1_want b r) (fun n e0 e1 e2 e3 e4 e5 e6 e7 e8 e9 e10 e11 e12 e13 e14 e15 e16 e17 e18 e19 e20 e21 h => absurd (pl_none n e0 e1 e2 e3 e4 e5 e6 e7 e8 e9 e10 e11 e12 e13 e14 e15 e16 e17 e18 e19 e20 e21) h) n
theorem mchk1 (b : Bdy) (r : List GV) (sp : GV) (ns : List (List UInt8)) (hlen : ns.length ≤ 1000) (hns : ∀ n ∈ ns, placeOf n ≠ none) (ps : List (List UInt8)) : ∀ (m i : Nat), i + m = ns.length →
    TT.lim 40 [sp, .l (ns.map .s), .i .i64 ns.length, .i .i64 i, .l (encM ps), .i .i64 b.kind, .i .u64 b.id, .i .u64 b.min, .i .u64 b.max, .i .u64 b.chosen, .i .u64 b.flags, .i .u64 b.cost, .i .u64 b.priority, .i .u64 b.deadline, .i .u64 b.retry, .i .u64 b.epoch, .i .u64 b.base, .i .u64 b.digest, .i .u64 b.lag, .i .u64 b.code, .i .u64 b.want, .i .i64 b.remaining, .b b.allowed, .s b.name, .s b.region, .s b.note, .l (b.d.map ent), .l (b.t.map row), .l r] = some (if (ns.drop i).all (fun n => decide (n ∈ ps) || nothB b n) = true then [.i .i64 1] else [.i .i64 0])
  | 0, i, hi => by
    have h0 : ns.drop i = [] := List.drop_eq_nil_of_le (by omega)
    refine tree_lim rfl rfl ?_
    have h : ¬ ((i : Int) < ns.length) := by omega
    simp [h, h0]
  | m + 1, i, hi => by
    have hlt : i < ns.length := by omega
    have ih := mchk1 b r sp ns hlen hns ps m (i + 1) (by omega)
    have hcast : ((i : Int) + 1) = ((i + 1 : Nat) : Int) := by omega
    rw [← hcast] at ih
    have hd : (ns.drop i).all (fun n => decide (n ∈ ps) || nothB b n) = ((decide (ns[i] ∈ ps) || nothB b ns[i]) && (ns.drop (i + 1)).all (fun n => decide (n ∈ ps) || nothB b n)) := by rw [List.drop_eq_getElem_cons hlt, List.all_cons]
    rw [hd]
    generalize (ns.drop (i + 1)).all (fun n => decide (n ∈ ps) || nothB b n) = X at *
    by_cases hps : ns[i] ∈ ps
    · have ha := assoc_encM ns[i] ps
      rw [if_pos hps] at ha
      have h1 : ((i : Int) < ns.length) := by omega
      have hw := wrap64 (n := (i : Int) + 1) (by omega) (by omega)
      rw [decide_eq_true hps, Bool.true_or, Bool.true_and]
      refine tree_lim rfl rfl ?_
      simp [h1, hlt, hw, ha, ih]
    · have ha := assoc_encM ns[i] ps
      rw [if_neg hps] at ha
      obtain ⟨c, c1, c2⟩ := step1_all b r ns[i] (hns _ (List.getElem_mem hlt))
      obtain ⟨c3, c4⟩ := c2 sp ns i ps _ hlt (by omega) (wrap64 (n := (i : Int) + 1) (by omega) (by omega)) rfl ha ih
      rw [decide_eq_false hps, Bool.false_or]
      cases hb : nothB b ns[i] with
      | true => rw [c3 (c1.1 hb), Bool.true_and]
      | false => rw [c4 (fun h => by rw [c1.2 h] at hb; cases hb), Bool.false_and]; rfl
def MayIs (b : Bdy) (r : List GV) (k : Nat) (out : List GV) : Prop := TT.lim k [.i .i64 b.kind, .i .u64 b.id, .i .u64 b.min, .i .u64 b.max, .i .u64 b.chosen, .i .u64 b.flags, .i .u64 b.cost, .i .u64 b.priority, .i .u64 b.deadline, .i .u64 b.retry, .i .u64 b.epoch, .i .u64 b.base, .i .u64 b.digest, .i .u64 b.lag, .i .u64 b.code, .i .u64 b.want, .i .i64 b.remaining, .b b.allowed, .s b.name, .s b.region, .s b.note, .l (b.d.map ent), .l (b.t.map row), .l r] = some out
theorem may_of (b : Bdy) {n : List UInt8} {p : Pl} (h : placeOf n = some p) : mayB b n = mayP b p := by unfold mayB; rw [h]
theorem may_remaining (b : Bdy) (r : List GV) : MayIs b r 42 [.i .i64 0] := by
  refine tree_lim rfl rfl ?_
  simp
theorem may_allowed (b : Bdy) (r : List GV) : MayIs b r 43 [.i .i64 0] := by
  refine tree_lim rfl rfl ?_
  simp
theorem may_name (b : Bdy) (r : List GV) (hb : BdyOk b) : MayIs b r 44 [.i .i64 0, .i .i64 (utfChk b.name 0 256)] := by
  have h := check19 b.name 0 256 hb.name
  refine tree_lim rfl rfl ?_
  simp [h]
theorem may_region (b : Bdy) (r : List GV) (hb : BdyOk b) : MayIs b r 48 [.i .i64 0, .i .i64 (utfChk b.region 0 256)] := by
  have h := check19 b.region 0 256 hb.region
  refine tree_lim rfl rfl ?_
  simp [h]
theorem may_note (b : Bdy) (r : List GV) (hb : BdyOk b) : MayIs b r 49 [.i .i64 0, .i .i64 (utfChk b.note 0 256)] := by
  have h := check19 b.note 0 256 hb.note
  refine tree_lim rfl rfl ?_
  simp [h]
theorem may_descr (b : Bdy) (r : List GV) (hb : BdyOk b) : MayIs b r 50 [.i .i64 0, .i .i64 (if b.d = [] then 0 else descrChk b.d)] := by
  have h := check16 b.d hb.d
  refine tree_lim rfl rfl ?_
  by_cases e : b.d = []
  · simp [e]
  · have e2 : ¬ (List.map ent b.d) = [] := by simpa using e
    have e3 : 0 < b.d.length := List.length_pos_iff.2 e
    simp [e, h]
theorem may_table (b : Bdy) (r : List GV) (hb : BdyOk b) (hf : ∀ r ∈ b.t, few12 r.1 = true) : MayIs b r 54 [.i .i64 0, .i .i64 (checkT b.t)] := by
  have h := check37 b.t hb.t hf
  refine tree_lim rfl rfl ?_
  simp [h]
theorem may_id (b : Bdy) (r : List GV) : MayIs b r 58 [.i .i64 0] := by
  refine tree_lim rfl rfl ?_
  simp
theorem may_min (b : Bdy) (r : List GV) : MayIs b r 59 [.i .i64 0] := by
  refine tree_lim rfl rfl ?_
  simp
theorem may_max (b : Bdy) (r : List GV) : MayIs b r 60 [.i .i64 0] := by
  refine tree_lim rfl rfl ?_
  simp
theorem may_chosen (b : Bdy) (r : List GV) : MayIs b r 61 [.i .i64 0] := by
  refine tree_lim rfl rfl ?_
  simp
theorem may_flags (b : Bdy) (r : List GV) : MayIs b r 62 [.i .i64 0] := by
  refine tree_lim rfl rfl ?_
  simp
theorem may_cost (b : Bdy) (r : List GV) : MayIs b r 63 [.i .i64 0] := by
  refine tree_lim rfl rfl ?_
  simp
theorem may_priority (b : Bdy) (r : List GV) : MayIs b r 64 [.i .i64 0] := by
  refine tree_lim rfl rfl ?_
  simp
theorem may_deadline (b : Bdy) (r : List GV) : MayIs b r 65 [.i .i64 0] := by
  refine tree_lim rfl rfl ?_
  simp
theorem may_retry (b : Bdy) (r : List GV) : MayIs b r 66 [.i .i64 0] := by
  refine tree_lim rfl rfl ?_
  simp
theorem may_epoch (b : Bdy) (r : List GV) : MayIs b r 67 [.i .i64 0] := by
  refine tree_lim rfl rfl ?_
  simp
theorem may_base (b : Bdy) (r : List GV) : MayIs b r 68 [.i .i64 0] := by
  refine tree_lim rfl rfl ?_
  simp
theorem may_digest (b : Bdy) (r : List GV) : MayIs b r 69 [.i .i64 0] := by
  refine tree_lim rfl rfl ?_
  simp
theorem may_lag (b : Bdy) (r : List GV) : MayIs b r 70 [.i .i64 0] := by
  refine tree_lim rfl rfl ?_
  simp
theorem may_code (b : Bdy) (r : List GV) : MayIs b r 71 [.i .i64 0] := by
  refine tree_lim rfl rfl ?_
  simp
theorem may_want (b : Bdy) (r : List GV) : MayIs b r 72 [.i .i64 0] := by
  refine tree_lim rfl rfl ?_
  simp
/-- One round of the third loop. -/
def Step2 (b : Bdy) (r : List GV) (n : List UInt8) (c : Int) : Prop := ∀ (l : List Spc) (i : Nat) (out : List GV) (h : i < l.length), ((i : Int) < l.length) → IntKind.i64.wrap ((i : Int) + 1) = (i : Int) + 1 → l[i].name = n →
    TT.lim 41 [.l (l.map spc), .i .i64 l.length, .i .i64 ((i : Int) + 1), .i .i64 b.kind, .i .u64 b.id, .i .u64 b.min, .i .u64 b.max, .i .u64 b.chosen, .i .u64 b.flags, .i .u64 b.cost, .i .u64 b.priority, .i .u64 b.deadline, .i .u64 b.retry, .i .u64 b.epoch, .i .u64 b.base, .i .u64 b.digest, .i .u64 b.lag, .i .u64 b.code, .i .u64 b.want, .i .i64 b.remaining, .b b.allowed, .s b.name, .s b.region, .s b.note, .l (b.d.map ent), .l (b.t.map row), .l r] = some out →
    TT.lim 41 [.l (l.map spc), .i .i64 l.length, .i .i64 i, .i .i64 b.kind, .i .u64 b.id, .i .u64 b.min, .i .u64 b.max, .i .u64 b.chosen, .i .u64 b.flags, .i .u64 b.cost, .i .u64 b.priority, .i .u64 b.deadline, .i .u64 b.retry, .i .u64 b.epoch, .i .u64 b.base, .i .u64 b.digest, .i .u64 b.lag, .i .u64 b.code, .i .u64 b.want, .i .i64 b.remaining, .b b.allowed, .s b.name, .s b.region, .s b.note, .l (b.d.map ent), .l (b.t.map row), .l r] = some (if c = 0 then out else [.i .i64 0, .i .i64 c])
theorem st2_remaining (b : Bdy) (r : List GV) : Step2 b r n_remaining 0 := by
  intro l i out h h1 hw hn ih
  have hm := may_remaining b r 
  unfold MayIs at hm
  unfold n_remaining at *
  rw [if_pos rfl]
  refine tree_lim rfl rfl ?_
  simp [h1, h, hn, hw, hm, ih]
theorem st2_allowed (b : Bdy) (r : List GV) : Step2 b r n_allowed 0 := by
  intro l i out h h1 hw hn ih
  have hm := may_allowed b r 
  unfold MayIs at hm
  unfold n_allowed at *
  rw [if_pos rfl]
  refine tree_lim rfl rfl ?_
  simp [h1, h, hn, hw, hm, ih]
theorem st2_name (b : Bdy) (r : List GV) (hb : BdyOk b) : Step2 b r n_name (utfChk b.name 0 256) := by
  intro l i out h h1 hw hn ih
  have hm := may_name b r hb
  unfold MayIs at hm
  unfold n_name at *
  generalize (utfChk b.name 0 256) = c at *
  by_cases hc : c = 0
  · subst hc
    rw [if_pos rfl]
    refine tree_lim rfl rfl ?_
    simp [h1, h, hn, hw, hm, ih]
  · rw [if_neg hc]
    refine tree_lim rfl rfl ?_
    simp [h1, h, hn, hw, hm, hc]
theorem st2_region (b : Bdy) (r : List GV) (hb : BdyOk b) : Step2 b r n_region (utfChk b.region 0 256) := by
  intro l i out h h1 hw hn ih
  have hm := may_region b r hb
  unfold MayIs at hm
  unfold n_region at *
  generalize (utfChk b.region 0 256) = c at *
  by_cases hc : c = 0
  · subst hc
    rw [if_pos rfl]
    refine tree_lim rfl rfl ?_
    simp [h1, h, hn, hw, hm, ih]
  · rw [if_neg hc]
    refine tree_lim rfl rfl ?_
    simp [h1, h, hn, hw, hm, hc]
theorem st2_note (b : Bdy) (r : List GV) (hb : BdyOk b) : Step2 b r n_note (utfChk b.note 0 256) := by
  intro l i out h h1 hw hn ih
  have hm := may_note b r hb
  unfold MayIs at hm
  unfold n_note at *
  generalize (utfChk b.note 0 256) = c at *
  by_cases hc : c = 0
  · subst hc
    rw [if_pos rfl]
    refine tree_lim rfl rfl ?_
    simp [h1, h, hn, hw, hm, ih]
  · rw [if_neg hc]
    refine tree_lim rfl rfl ?_
    simp [h1, h, hn, hw, hm, hc]
theorem st2_descr (b : Bdy) (r : List GV) (hb : BdyOk b) : Step2 b r n_descr (if b.d = [] then 0 else descrChk b.d) := by
  intro l i out h h1 hw hn ih
  have hm := may_descr b r hb
  unfold MayIs at hm
  unfold n_descr at *
  generalize (if b.d = [] then 0 else descrChk b.d) = c at *
  by_cases hc : c = 0
  · subst hc
    rw [if_pos rfl]
    refine tree_lim rfl rfl ?_
    simp [h1, h, hn, hw, hm, ih]
  · rw [if_neg hc]
    refine tree_lim rfl rfl ?_
    simp [h1, h, hn, hw, hm, hc]
theorem st2_table (b : Bdy) (r : List GV) (hb : BdyOk b) (hf : ∀ r ∈ b.t, few12 r.1 = true) : Step2 b r n_table (checkT b.t) := by
  intro l i out h h1 hw hn ih
  have hm := may_table b r hb hf
  unfold MayIs at hm
  unfold n_table at *
  generalize (checkT b.t) = c at *
  by_cases hc : c = 0
  · subst hc
    rw [if_pos rfl]
    refine tree_lim rfl rfl ?_
    simp [h1, h, hn, hw, hm, ih]
  · rw [if_neg hc]
    refine tree_lim rfl rfl ?_
    simp [h1, h, hn, hw, hm, hc]
theorem st2_id (b : Bdy) (r : List GV) : Step2 b r n_id 0 := by
  intro l i out h h1 hw hn ih
  have hm := may_id b r 
  unfold MayIs at hm
  unfold n_id at *
  rw [if_pos rfl]
  refine tree_lim rfl rfl ?_
  simp [h1, h, hn, hw, hm, ih]
theorem st2_min (b : Bdy) (r : List GV) : Step2 b r n_min 0 := by
  intro l i out h h1 hw hn ih
  have hm := may_min b r 
  unfold MayIs at hm
  unfold n_min at *
  rw [if_pos rfl]
  refine tree_lim rfl rfl ?_
  simp [h1, h, hn, hw, hm, ih]
theorem st2_max (b : Bdy) (r : List GV) : Step2 b r n_max 0 := by
  intro l i out h h1 hw hn ih
  have hm := may_max b r 
  unfold MayIs at hm
  unfold n_max at *
  rw [if_pos rfl]
  refine tree_lim rfl rfl ?_
  simp [h1, h, hn, hw, hm, ih]
theorem st2_chosen (b : Bdy) (r : List GV) : Step2 b r n_chosen 0 := by
  intro l i out h h1 hw hn ih
  have hm := may_chosen b r 
  unfold MayIs at hm
  unfold n_chosen at *
  rw [if_pos rfl]
  refine tree_lim rfl rfl ?_
  simp [h1, h, hn, hw, hm, ih]
theorem st2_flags (b : Bdy) (r : List GV) : Step2 b r n_flags 0 := by
  intro l i out h h1 hw hn ih
  have hm := may_flags b r 
  unfold MayIs at hm
  unfold n_flags at *
  rw [if_pos rfl]
  refine tree_lim rfl rfl ?_
  simp [h1, h, hn, hw, hm, ih]
theorem st2_cost (b : Bdy) (r : List GV) : Step2 b r n_cost 0 := by
  intro l i out h h1 hw hn ih
  have hm := may_cost b r 
  unfold MayIs at hm
  unfold n_cost at *
  rw [if_pos rfl]
  refine tree_lim rfl rfl ?_
  simp [h1, h, hn, hw, hm, ih]
theorem st2_priority (b : Bdy) (r : List GV) : Step2 b r n_priority 0 := by
  intro l i out h h1 hw hn ih
  have hm := may_priority b r 
  unfold MayIs at hm
  unfold n_priority at *
  rw [if_pos rfl]
  refine tree_lim rfl rfl ?_
  simp [h1, h, hn, hw, hm, ih]
theorem st2_deadline (b : Bdy) (r : List GV) : Step2 b r n_deadline 0 := by
  intro l i out h h1 hw hn ih
  have hm := may_deadline b r 
  unfold MayIs at hm
  unfold n_deadline at *
  rw [if_pos rfl]
  refine tree_lim rfl rfl ?_
  simp [h1, h, hn, hw, hm, ih]
theorem st2_retry (b : Bdy) (r : List GV) : Step2 b r n_retry 0 := by
  intro l i out h h1 hw hn ih
  have hm := may_retry b r 
  unfold MayIs at hm
  unfold n_retry at *
  rw [if_pos rfl]
  refine tree_lim rfl rfl ?_
  simp [h1, h, hn, hw, hm, ih]
theorem st2_epoch (b : Bdy) (r : List GV) : Step2 b r n_epoch 0 := by
  intro l i out h h1 hw hn ih
  have hm := may_epoch b r 
  unfold MayIs at hm
  unfold n_epoch at *
  rw [if_pos rfl]
  refine tree_lim rfl rfl ?_
  simp [h1, h, hn, hw, hm, ih]
theorem st2_base (b : Bdy) (r : List GV) : Step2 b r n_base 0 := by
  intro l i out h h1 hw hn ih
  have hm := may_base b r 
  unfold MayIs at hm
  unfold n_base at *
  rw [if_pos rfl]
  refine tree_lim rfl rfl ?_
  simp [h1, h, hn, hw, hm, ih]
theorem st2_digest (b : Bdy) (r : List GV) : Step2 b r n_digest 0 := by
  intro l i out h h1 hw hn ih
  have hm := may_digest b r 
  unfold MayIs at hm
  unfold n_digest at *
  rw [if_pos rfl]
  refine tree_lim rfl rfl ?_
  simp [h1, h, hn, hw, hm, ih]
theorem st2_lag (b : Bdy) (r : List GV) : Step2 b r n_lag 0 := by
  intro l i out h h1 hw hn ih
  have hm := may_lag b r 
  unfold MayIs at hm
  unfold n_lag at *
  rw [if_pos rfl]
  refine tree_lim rfl rfl ?_
  simp [h1, h, hn, hw, hm, ih]
theorem st2_code (b : Bdy) (r : List GV) : Step2 b r n_code 0 := by
  intro l i out h h1 hw hn ih
  have hm := may_code b r 
  unfold MayIs at hm
  unfold n_code at *
  rw [if_pos rfl]
  refine tree_lim rfl rfl ?_
  simp [h1, h, hn, hw, hm, ih]
theorem st2_want (b : Bdy) (r : List GV) : Step2 b r n_want 0 := by
  intro l i out h h1 hw hn ih
  have hm := may_want b r 
  unfold MayIs at hm
  unfold n_want at *
  rw [if_pos rfl]
  refine tree_lim rfl rfl ?_
  simp [h1, h, hn, hw, hm, ih]
theorem step2_all (b : Bdy) (r : List GV) (hb : BdyOk b) (hf : ∀ r ∈ b.t, few12 r.1 = true) (n : List UInt8) : placeOf n ≠ none → Step2 b r n (mayB b n) := by
  refine by_name (Q := fun n => placeOf n ≠ none → Step2 b r n (mayB b n)) (fun _ => by rw [may_of b pl_remaining]; exact st2_remaining b r ) (fun _ => by rw [may_of b pl_allowed]; exact st2_allowed b r ) (fun _ => by rw [may_of b pl_name]; exact st2_name b r hb) (fun _ => by rw [may_of b pl_region]; exact st2_region b r hb) (fun _ => by rw [may_of b pl_note]; exact st2_note b r hb) (fun _ => by rw [may_of b pl_descr]; exact st2_descr b r hb) (fun _ => by rw [may_of b pl_table]; exact st2_table b r hb hf) (fun _ => by rw [may_of b pl_id]; exact st2_id b r ) (fun _ => by rw [may_of b pl_min]; exact st2_min b r ) (fun _ => by rw [may_of b pl_max]; exact st2_max b r ) (fun _ => by rw [may_of b pl_chosen]; exact st2_chosen b r ) (fun _ => by rw [may_of b pl_flags]; exact st2_flags b r ) (fun _ => by rw [may_of b pl_cost]; exact st2_cost b r ) (fun _ => by rw [may_of b pl_priority]; exact st2_priority b r ) (fun _ => by rw [may_of b pl_deadline]; exact st2_deadline b r ) (fun _ => by rw [may_of b pl_retry]; exact st2_retry b r ) (fun _ => by rw [may_of b pl_epoch]; exact st2_epoch b r ) (fun _ => by rw [may_of b pl_base]; exact st2_base b r ) (fun _ => by rw [may_of b pl_digest]; exact st2_digest b r ) (fun _ => by rw [may_of b pl_lag]; exact st2_lag b r ) (fun _ => by rw [may_of b pl_code]; exact st2_code b r ) (fun _ => by rw [may_of b pl_want]; exact st2_want b r ) (fun n e0 e1 e2 e3 e4 e5 e6 e7 e8 e9 e10 e11 e12 e13 e14 e15 e16 e17 e18 e19 e20 e21 h => absurd (pl_none n e0 e1 e2 e3 e4 e5 e6 e7 e8 e9 e10 e11 e12 e13 e14 e15 e16 e17 e18 e19 e20 e21) h) n
/-- The first thing that is wrong with the values of names. -/
def mayL (b : Bdy) : List Spc → Int
  | [] => 0
  | s :: l => if mayB b s.name = 0 then mayL b l else mayB b s.name
theorem mchk2 (b : Bdy) (r : List GV) (hb : BdyOk b) (hf : ∀ r ∈ b.t, few12 r.1 = true) (l : List Spc) (hlen : l.length ≤ 1000) (hns : ∀ s ∈ l, placeOf s.name ≠ none) : ∀ (m i : Nat), i + m = l.length →
    TT.lim 41 [.l (l.map spc), .i .i64 l.length, .i .i64 i, .i .i64 b.kind, .i .u64 b.id, .i .u64 b.min, .i .u64 b.max, .i .u64 b.chosen, .i .u64 b.flags, .i .u64 b.cost, .i .u64 b.priority, .i .u64 b.deadline, .i .u64 b.retry, .i .u64 b.epoch, .i .u64 b.base, .i .u64 b.digest, .i .u64 b.lag, .i .u64 b.code, .i .u64 b.want, .i .i64 b.remaining, .b b.allowed, .s b.name, .s b.region, .s b.note, .l (b.d.map ent), .l (b.t.map row), .l r] = some (if mayL b (l.drop i) = 0 then [.i .i64 1] else [.i .i64 0, .i .i64 (mayL b (l.drop i))])
  | 0, i, hi => by
    have h0 : l.drop i = [] := List.drop_eq_nil_of_le (by omega)
    refine tree_lim rfl rfl ?_
    have h : ¬ ((i : Int) < l.length) := by omega
    simp [h, h0, mayL]
  | m + 1, i, hi => by
    have hlt : i < l.length := by omega
    have ih := mchk2 b r hb hf l hlen hns m (i + 1) (by omega)
    have hcast : ((i : Int) + 1) = ((i + 1 : Nat) : Int) := by omega
    rw [← hcast] at ih
    have := step2_all b r hb hf l[i].name (hns _ (List.getElem_mem hlt)) l i _ hlt (by omega) (wrap64 (n := (i : Int) + 1) (by omega) (by omega)) rfl ih
    rw [this, List.drop_eq_getElem_cons hlt]
    by_cases hc : mayB b l[i].name = 0
    · have hm : mayL b (l[i] :: l.drop (i + 1)) = mayL b (l.drop (i + 1)) := by simp only [mayL, hc, if_true]
      rw [if_pos hc, hm]
    · have hm : mayL b (l[i] :: l.drop (i + 1)) = mayB b l[i].name := by simp only [mayL, hc, if_false]
      rw [if_neg hc, hm, if_neg hc]
def hasTag (l : List Spc) (t : Int) : Bool := l.any fun s => decide (t = s.tag)
theorem mchk30 (l : List Spc) (hlen : l.length ≤ 1000) (a1 a2 a3 : GV) (t : Int) (a7 a8 a9 a10 : GV) : ∀ (m i : Nat), i + m = l.length →
    TT.lim 78 [.l (l.map spc), a1, a2, a3, .i .i64 l.length, .i .i64 i, .i .u64 t, a7, a8, a9, a10] = some (if hasTag (l.drop i) t = true then [.i .i64 0] else [.i .i64 1])
  | 0, i, hi => by
    have h0 : l.drop i = [] := List.drop_eq_nil_of_le (by omega)
    refine tree_lim rfl rfl ?_
    have h : ¬ ((i : Int) < l.length) := by omega
    simp [h, h0, hasTag]
  | m + 1, i, hi => by
    have hlt : i < l.length := by omega
    have ih := mchk30 l hlen a1 a2 a3 t a7 a8 a9 a10 m (i + 1) (by omega)
    have hcast : ((i : Int) + 1) = ((i + 1 : Nat) : Int) := by omega
    rw [← hcast] at ih
    have h1 : ((i : Int) < l.length) := by omega
    have hw := wrap64 (n := (i : Int) + 1) (by omega) (by omega)
    have hd : hasTag (l.drop i) t = (decide (t = l[i].tag) || hasTag (l.drop (i + 1)) t) := by rw [List.drop_eq_getElem_cons hlt]; rfl
    rw [hd]
    generalize hasTag (l.drop (i + 1)) t = X at *
    refine tree_lim rfl rfl ?_
    by_cases hc : t = l[i].tag
    · simp [h1, hlt, hc]
    · simp [h1, hlt, hc, hw, ih]
theorem mchk3 (l : List Spc) (hlen : l.length ≤ 1000) (fl : List Fld) (hfl : fl.length ≤ 1000000) : ∀ (m i : Nat), i + m = fl.length →
    TT.lim 77 [.l (l.map spc), .l (fldsG fl), .i .i64 fl.length, .i .i64 i] = some (if (fl.drop i).any (fun f => hasTag l f.tag) = true then [.i .i64 0] else [.i .i64 1])
  | 0, i, hi => by
    have h0 : fl.drop i = [] := List.drop_eq_nil_of_le (by omega)
    refine tree_lim rfl rfl ?_
    have h : ¬ ((i : Int) < fl.length) := by omega
    simp [h, h0]
  | m + 1, i, hi => by
    have hlt : i < fl.length := by omega
    have ih := mchk3 l hlen fl hfl m (i + 1) (by omega)
    have hcast : ((i : Int) + 1) = ((i + 1 : Nat) : Int) := by omega
    rw [← hcast] at ih
    have h1 : ((i : Int) < fl.length) := by omega
    have hw := wrap64 (n := (i : Int) + 1) (by omega) (by omega)
    have hd : (fl.drop i).any (fun f => hasTag l f.tag) = (hasTag l fl[i].tag || (fl.drop (i + 1)).any (fun f => hasTag l f.tag)) := by rw [List.drop_eq_getElem_cons hlt, List.any_cons]
    rw [hd]
    have hget : (fldsG fl)[i]? = some (fldG fl[i]) := by rw [fldsG_map, List.getElem?_map, List.getElem?_eq_getElem hlt]; rfl
    clear hd
    obtain ⟨t, y, n, s, k, hfi⟩ : ∃ t y n s k, fl[i] = Fld.mk t y n s k := by
      cases fl[i] with
      | mk t y n s k => exact ⟨_, _, _, _, _, rfl⟩
    rw [hfi] at hget ⊢
    rw [show (Fld.mk t y n s k).tag = t from rfl]
    have h3 : TT.lim 78 [.l (l.map spc), .l (fldsG fl), .i .i64 fl.length, .i .i64 i, .i .i64 l.length, .i .i64 0, .i .u64 t, .i .i64 y, .i .u64 n, .s s, .l (fldsG k)] = _ := mchk30 l hlen _ _ _ t _ _ _ _ l.length 0 (by omega)
    rw [List.drop_zero] at h3
    refine tree_lim rfl rfl ?_
    by_cases hc : hasTag l t = true
    · rw [if_pos hc] at h3
      simp [-List.any_eq_true, h1, hget, h3, hc]
    · rw [if_neg hc] at h3
      have hc : hasTag l t = false := by simpa using hc
      simp [-List.any_eq_true, h1, hget, h3, hw, ih, hc]
def boundsF (b : Bdy) : Int :=
  if b.kind = 1 then (if b.min < 1 then 18 else if b.max < b.min then 18 else if 255 < b.max then 18 else 0)
  else if b.kind = 2 then (if b.chosen < 1 then 18 else if 255 < b.chosen then 18 else 0)
  else if b.kind = 3 then (if b.d = [] then 12 else 0)
  else if b.kind = 5 then (if b.epoch < 1 then 18 else 0)
  else if b.kind = 6 then (if b.base < 1 then 18 else if b.epoch ≤ b.base then 20 else 0)
  else 0
/-- What is said of a message at a version. -/
def restM (sp : List Spc) (fl : List Fld) : Int := if chkFL 0 0 fl ≠ 0 then chkFL 0 0 fl else if fl.any (fun f => hasTag sp f.tag) = true then 14 else 0
def checkM (b : Bdy) (fl : List Fld) (v : Int) : Int :=
  if v < 1 then 16 else if 3 < v then 16 else
  if knownF b.kind v = [] then 15 else
  if namesL.all (fun n => hasN (knownF b.kind v) n || nothB b n) = false then 26 else
  if mayL b (knownF b.kind v) ≠ 0 then mayL b (knownF b.kind v) else
  if boundsF b ≠ 0 then boundsF b else restM (knownF b.kind v) fl
theorem names_place : ∀ n ∈ namesL, placeOf n ≠ none := by decide
theorem known_place (k v : Int) : ∀ s ∈ knownF k v, placeOf s.name ≠ none := by
  have key : ∀ s ∈ specsF k, placeOf s.name ≠ none := by
    unfold specsF
    repeat' split
    all_goals first | (unfold sp1; decide) | (unfold sp2; decide) | (unfold sp3; decide) | (unfold sp4; decide) | (unfold sp5; decide) | (unfold sp6; decide) | (unfold sp7; decide) | (unfold sp8; decide) | (intro s hs; cases hs)
  intro s hs
  exact key s (List.mem_filter.1 hs).1
theorem known_len (k v : Int) : (knownF k v).length ≤ 8 := Nat.le_trans (List.length_filter_le _ _) (sp_len k)
set_option maxHeartbeats 4000000 in
theorem mcheck_ok (b : Bdy) (fl : List Fld) (v : Int) (hb : BdyOk b) (hf : ∀ r ∈ b.t, few12 r.1 = true) (hok : fldsOk fl) (hlen : fl.length ≤ 1000000) : TT.lim 26 [msgG b (fldsG fl), .i .i64 v] = some [.i .i64 (checkM b fl v)] := by
  have hk := kfrom_ok b.kind
  refine fn_lim rfl rfl ?_ rfl
  unfold checkM
  by_cases v1 : v < 1
  · simp [v1]
  by_cases v3 : 3 < v
  · simp [v1, v3]
  rw [if_neg v1, if_neg v3]
  have hnil := known_nil b.kind v (by omega) (by omega)
  by_cases k0 : fromK b.kind = 0
  · rw [if_pos (hnil.2 (.inl k0))]
    rw [k0] at hk
    simp [v1, v3, hk]
  by_cases k1 : v < fromK b.kind
  · rw [if_pos (hnil.2 (.inr k1))]
    simp [v1, v3, hk, k0, k1]
  rw [if_neg (fun e => (hnil.1 e).elim k0 k1)]
  have hkn := kknown_ok b.kind v (by omega) (by omega) (by omega)
  have hpl := known_place b.kind v
  have hl8 := known_len b.kind v
  clear hnil
  generalize knownF b.kind v = sp at *
  have hnm := names39
  have h0 := mchk0 b (fldsG fl) sp (by omega) sp.length 0 [] (by omega)
  have h1 := mchk1 b (fldsG fl) (.l (sp.map spc)) namesL (by decide) names_place (insAll [] sp) namesL.length 0 (by omega)
  have h2 := mchk2 b (fldsG fl) hb hf sp (by omega) hpl sp.length 0 (by omega)
  have h3 := mchk3 sp (by omega) fl hlen fl.length 0 (by omega)
  have h4 := fcheck_ok fl hok hlen
  rw [List.drop_zero] at h0 h1 h2 h3
  simp only [mem_hasN] at h1
  have hnl : (namesL.map GV.s).length = namesL.length := List.length_map _
  have hfl := fldsG_len fl
  rw [← hfl] at h3
  generalize hX : insAll [] sp = ps at *
  have h0' : TT.lim 38 [.l (sp.map spc), .i .i64 sp.length, .i .i64 0, .l [], .i .i64 b.kind, .i .u64 b.id, .i .u64 b.min, .i .u64 b.max, .i .u64 b.chosen, .i .u64 b.flags, .i .u64 b.cost, .i .u64 b.priority, .i .u64 b.deadline, .i .u64 b.retry, .i .u64 b.epoch, .i .u64 b.base, .i .u64 b.digest, .i .u64 b.lag, .i .u64 b.code, .i .u64 b.want, .i .i64 b.remaining, .b b.allowed, .s b.name, .s b.region, .s b.note, .l (b.d.map ent), .l (b.t.map row), .l (fldsG fl)] = some [.i .i64 0, .l (encM ps)] := h0
  clear h0
  have h1' : TT.lim 40 [.l (sp.map spc), .l (namesL.map .s), .i .i64 namesL.length, .i .i64 0, .l (encM ps), .i .i64 b.kind, .i .u64 b.id, .i .u64 b.min, .i .u64 b.max, .i .u64 b.chosen, .i .u64 b.flags, .i .u64 b.cost, .i .u64 b.priority, .i .u64 b.deadline, .i .u64 b.retry, .i .u64 b.epoch, .i .u64 b.base, .i .u64 b.digest, .i .u64 b.lag, .i .u64 b.code, .i .u64 b.want, .i .i64 b.remaining, .b b.allowed, .s b.name, .s b.region, .s b.note, .l (b.d.map ent), .l (b.t.map row), .l (fldsG fl)] = _ := h1
  clear h1
  have h2' : TT.lim 41 [.l (sp.map spc), .i .i64 sp.length, .i .i64 0, .i .i64 b.kind, .i .u64 b.id, .i .u64 b.min, .i .u64 b.max, .i .u64 b.chosen, .i .u64 b.flags, .i .u64 b.cost, .i .u64 b.priority, .i .u64 b.deadline, .i .u64 b.retry, .i .u64 b.epoch, .i .u64 b.base, .i .u64 b.digest, .i .u64 b.lag, .i .u64 b.code, .i .u64 b.want, .i .i64 b.remaining, .b b.allowed, .s b.name, .s b.region, .s b.note, .l (b.d.map ent), .l (b.t.map row), .l (fldsG fl)] = _ := h2
  clear h2
  have h3' : TT.lim 77 [.l (sp.map spc), .l (fldsG fl), .i .i64 (fldsG fl).length, .i .i64 0] = _ := h3
  clear h3
  have hr : restM sp fl = if chkFL 0 0 fl ≠ 0 then chkFL 0 0 fl else if fl.any (fun f => hasTag sp f.tag) = true then 14 else 0 := rfl
  generalize (namesL.all fun n => hasN sp n || nothB b n) = A at *
  generalize mayL b sp = M at *
  generalize chkFL 0 0 fl = F at *
  generalize (fl.any fun f => hasTag sp f.tag) = W at *
  generalize restM sp fl = R at *
  generalize namesL = NL at *
  have hcommon : ∀ (x : GV), True := fun _ => trivial
  cases A with
  | false =>
    simp only [Bool.false_eq_true, if_false] at h1'
    simp [v1, v3, hk, k0, k1, hkn, hnm, h0', h1']
  | true =>
  simp only [if_true] at h1'
  by_cases hM : M = 0
  rotate_left
  · rw [if_neg hM] at h2'
    simp [v1, v3, hk, k0, k1, hkn, hnm, h0', h1', h2', hM]
  rw [if_pos hM] at h2'
  rw [if_neg (by simp), if_neg (by simp [hM])]
  clear hM
  -- the rest of it
  have key : ∀ (c : Int), boundsF b = c → c ≠ 0 → True := fun _ _ _ => trivial
  unfold boundsF
  by_cases e1 : b.kind = 1
  · have e1 := eq_true e1
    by_cases c1 : b.min < 1
    · simp [v1, v3, hk, k0, k1, hkn, hnm, h0', h1', h2', e1, c1]
    by_cases c2 : b.max < b.min
    · simp [v1, v3, hk, k0, k1, hkn, hnm, h0', h1', h2', e1, c1, c2]
    by_cases c3 : 255 < b.max
    · simp [v1, v3, hk, k0, k1, hkn, hnm, h0', h1', h2', e1, c1, c2, c3]
    simp only [e1, c1, c2, c3, if_true, if_false, ne_eq, not_true_eq_false]
    rw [hr]
    by_cases hF : F = 0
    · subst hF
      cases W with
      | true => simp only [if_true] at h3'; simp [v1, v3, hk, k0, k1, hkn, hnm, h0', h1', h2', e1, c1, c2, c3, h4, h3']
      | false => simp only [Bool.false_eq_true, if_false] at h3'; simp [v1, v3, hk, k0, k1, hkn, hnm, h0', h1', h2', e1, c1, c2, c3, h4, h3']
    · simp [v1, v3, hk, k0, k1, hkn, hnm, h0', h1', h2', e1, c1, c2, c3, h4, hF]
  by_cases e2 : b.kind = 2
  · have e2 := eq_true e2
    by_cases c1 : b.chosen < 1
    · simp [v1, v3, hk, k0, k1, hkn, hnm, h0', h1', h2', e1, e2, c1]
    by_cases c2 : 255 < b.chosen
    · simp [v1, v3, hk, k0, k1, hkn, hnm, h0', h1', h2', e1, e2, c1, c2]
    simp only [e1, e2, c1, c2, if_true, if_false, ne_eq, not_true_eq_false]
    rw [hr]
    by_cases hF : F = 0
    · subst hF
      cases W with
      | true => simp only [if_true] at h3'; simp [v1, v3, hk, k0, k1, hkn, hnm, h0', h1', h2', e1, e2, c1, c2, h4, h3']
      | false => simp only [Bool.false_eq_true, if_false] at h3'; simp [v1, v3, hk, k0, k1, hkn, hnm, h0', h1', h2', e1, e2, c1, c2, h4, h3']
    · simp [v1, v3, hk, k0, k1, hkn, hnm, h0', h1', h2', e1, e2, c1, c2, h4, hF]
  by_cases e3 : b.kind = 3
  · have e3 := eq_true e3
    by_cases c1 : b.d = []
    · have c1 := eq_true c1
      simp [v1, v3, hk, k0, k1, hkn, hnm, h0', h1', h2', e1, e2, e3, c1]
    simp only [e1, e2, e3, c1, if_true, if_false, ne_eq, not_true_eq_false]
    rw [hr]
    by_cases hF : F = 0
    · subst hF
      cases W with
      | true => simp only [if_true] at h3'; simp [v1, v3, hk, k0, k1, hkn, hnm, h0', h1', h2', e1, e2, e3, c1, h4, h3']
      | false => simp only [Bool.false_eq_true, if_false] at h3'; simp [v1, v3, hk, k0, k1, hkn, hnm, h0', h1', h2', e1, e2, e3, c1, h4, h3']
    · simp [v1, v3, hk, k0, k1, hkn, hnm, h0', h1', h2', e1, e2, e3, c1, h4, hF]
  by_cases e5 : b.kind = 5
  · have e5 := eq_true e5
    by_cases c1 : b.epoch < 1
    · simp [v1, v3, hk, k0, k1, hkn, hnm, h0', h1', h2', e1, e2, e3, e5, c1]
    simp only [e1, e2, e3, e5, c1, if_true, if_false, ne_eq, not_true_eq_false]
    rw [hr]
    by_cases hF : F = 0
    · subst hF
      cases W with
      | true => simp only [if_true] at h3'; simp [v1, v3, hk, k0, k1, hkn, hnm, h0', h1', h2', e1, e2, e3, e5, c1, h4, h3']
      | false => simp only [Bool.false_eq_true, if_false] at h3'; simp [v1, v3, hk, k0, k1, hkn, hnm, h0', h1', h2', e1, e2, e3, e5, c1, h4, h3']
    · simp [v1, v3, hk, k0, k1, hkn, hnm, h0', h1', h2', e1, e2, e3, e5, c1, h4, hF]
  by_cases e6 : b.kind = 6
  · have e6 := eq_true e6
    by_cases c1 : b.base < 1
    · simp [v1, v3, hk, k0, k1, hkn, hnm, h0', h1', h2', e1, e2, e3, e5, e6, c1]
    by_cases c2 : b.epoch ≤ b.base
    · simp [v1, v3, hk, k0, k1, hkn, hnm, h0', h1', h2', e1, e2, e3, e5, e6, c1, c2]
    simp only [e1, e2, e3, e5, e6, c1, c2, if_true, if_false, ne_eq, not_true_eq_false]
    rw [hr]
    by_cases hF : F = 0
    · subst hF
      cases W with
      | true => simp only [if_true] at h3'; simp [v1, v3, hk, k0, k1, hkn, hnm, h0', h1', h2', e1, e2, e3, e5, e6, c1, c2, h4, h3']
      | false => simp only [Bool.false_eq_true, if_false] at h3'; simp [v1, v3, hk, k0, k1, hkn, hnm, h0', h1', h2', e1, e2, e3, e5, e6, c1, c2, h4, h3']
    · simp [v1, v3, hk, k0, k1, hkn, hnm, h0', h1', h2', e1, e2, e3, e5, e6, c1, c2, h4, hF]
  simp only [e1, e2, e3, e5, e6, if_false, ne_eq, not_true_eq_false]
  rw [hr]
  by_cases hF : F = 0
  · subst hF
    cases W with
    | true => simp only [if_true] at h3'; simp [v1, v3, hk, k0, k1, hkn, hnm, h0', h1', h2', e1, e2, e3, e5, e6, h4, h3']
    | false => simp only [Bool.false_eq_true, if_false] at h3'; simp [v1, v3, hk, k0, k1, hkn, hnm, h0', h1', h2', e1, e2, e3, e5, e6, h4, h3']
  · simp [v1, v3, hk, k0, k1, hkn, hnm, h0', h1', h2', e1, e2, e3, e5, e6, h4, hF]
end M
end Go.Proofs.YtckgelanagoenaaGreatDoor
