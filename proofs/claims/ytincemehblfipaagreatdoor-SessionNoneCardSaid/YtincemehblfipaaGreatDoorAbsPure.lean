/- Calls that change nothing and hand on what nobody changes: the frozen form of a value, and code that is walked. -/
import Derived.Test.YtincemehblfipaaGreatDoorAbsClosed
namespace Go.Abs
noncomputable section
variable [TabsOf]
set_option linter.unusedSectionVars false
set_option linter.unusedVariables false
set_option linter.unusedSimpArgs false
variable {P : Program}

/-- A value without abstract blocks: what it stands for goes by the frozen blocks alone. -/
theorem VR.ground {η η' : Env} {a : AV} {v : Value} (ha : a.under 0 = true) (h : VR η a v) (hro : ∀ b o, η.ro b = some o → η'.ro b = some o) : VR η' a v :=
  VR.mono (η := η.cut 0) ⟨fun id q hq => by simp [Env.cut] at hq, hro⟩ a v (VR.cut a v ha h)
theorem VRs.ground {η η' : Env} {l : List AV} {vs : List Value} (ha : AV.unders 0 l = true) (h : VRs η l vs) (hro : ∀ b o, η.ro b = some o → η'.ro b = some o) : VRs η' l vs :=
  VRs.mono (η := η.cut 0) ⟨fun id q hq => by simp [Env.cut] at hq, hro⟩ l vs (VRs.cut l vs ha h)

/-! ### Cells by elements -/
def grp (agg : Bool) (size : Nat) : Nat → List AV → List AV
  | 0, _ => []
  | n + 1, cs => (if agg then .agg (cs.take size) else cs.headD .nilp) :: grp agg size n (cs.drop size)
def grpV (agg : Bool) (size : Nat) : Nat → List Value → List Value
  | 0, _ => []
  | n + 1, cs => (if agg then .agg ⟨cs.take size⟩ else cs.headD undef) :: grpV agg size n (cs.drop size)

theorem grp_length (agg : Bool) (size : Nat) : ∀ (n : Nat) (l : List AV), (grp agg size n l).length = n
  | 0, _ => rfl
  | n + 1, l => by simp [grp, grp_length agg size n]

theorem grp_ok {η : Env} {agg : Bool} {size : Nat} (h1 : agg = false → size = 1) : ∀ (n : Nat) (l : List AV) (xs : List Value), VRs η l xs → l.length = n * size → l.all AV.isAddrOrScalar = true →
    VRs η (grp agg size n l) (grpV agg size n xs) ∧ (∀ x ∈ grpV agg size n xs, x.cells.size = size) ∧ cellsL (grpV agg size n xs) = xs
  | 0, l, xs, hv, hl, _ => by
    have : xs = [] := by
      apply List.eq_nil_of_length_eq_zero
      rw [← hv.length, hl]
      exact Nat.zero_mul _
    subst this
    simp [grp, grpV, VRs, cellsL]
  | n + 1, l, xs, hv, hl, hone => by
    have hlen := hv.length
    rw [Nat.add_mul, Nat.one_mul] at hl
    have ih := grp_ok h1 n (l.drop size) (xs.drop size) (hv.drop size) (by simp; omega) (by
      rw [List.all_eq_true] at hone ⊢
      exact fun a ha => hone a (List.mem_of_mem_drop ha))
    cases agg with
    | true =>
      simp only [grp, grpV, if_true]
      refine ⟨VRs.cons (by simp only [VR]; exact ⟨_, rfl, hv.take size⟩) ih.1, ?_, ?_⟩
      · intro x hx
        rcases List.mem_cons.1 hx with rfl | hx
        · have := hlen; simp [Value.cells]; try omega
        · exact ih.2.1 x hx
      · have := ih.2.2
        simp only [cellsL, List.flatMap_cons] at this ⊢
        rw [this]
        simp [Value.cells]
    | false =>
      have hs := h1 rfl
      subst hs
      cases l with
      | nil => simp at hl
      | cons a l =>
        simp only [VRs] at hv
        obtain ⟨x, ys, rfl, h2, h3⟩ := hv
        have ha := List.all_eq_true.1 hone a (by simp)
        have hx1 := oneC_of h2 ha
        have hxc : x.cells = #[x] := by cases x <;> simp [oneC] at hx1 <;> rfl
        simp only [grp, grpV, Bool.false_eq_true, if_false, List.headD_cons]
        simp only [List.drop_succ_cons, List.drop_zero] at ih ⊢
        refine ⟨VRs.cons h2 ih.1, ?_, ?_⟩
        · intro y hy
          rcases List.mem_cons.1 hy with rfl | hy
          · rw [hxc]; rfl
          · exact ih.2.1 y hy
        · have := ih.2.2
          simp only [cellsL, List.flatMap_cons] at this ⊢
          rw [this, hxc]
          rfl

/-! ### The frozen form -/
def frz (P : Program) (σ : ASt) : Nat → AV → Option AV
  | 0, _ => none
  | n + 1, a =>
    match a with
    | .sl id off len _ =>
      if len = 0 then some (.ro []) else
      match σ.get id with
      | some (.cells c et true _) =>
        match sizeT P et, isAggT P et with
        | some size, some agg =>
          if (agg = true ∧ 0 < size) ∨ size = 1 then
            match takeN c off (len * size) with
            | some cs => match optMap (frz P σ n) cs with
              | some ds => if ds.all AV.isAddrOrScalar then some (.ro (grp agg size len ds)) else none
              | none => none
            | none => none
          else none
        | _, _ => none
      | _ => none
    | .nils => some (.ro [])
    | .agg l => (optMap (frz P σ n) l).map .agg
    | .tup l => (optMap (frz P σ n) l).map .tup
    | .ifc t x => (frz P σ n x).map (.ifc t)
    | a => if a.under 0 then some a else none

theorem optMap_VRs {η η' : Env} {f : AV → Option AV} (hf : ∀ a r v, f a = some r → VR η a v → VR η' r v) {l r : List AV} {vs : List Value} (h : optMap f l = some r) (hv : VRs η l vs) : VRs η' r vs := by
  obtain ⟨h1, h2⟩ := optMap_some h
  refine VRs.of (by rw [← h1]; exact hv.length) fun k a hk => ?_
  have hlt : k < l.length := by have := (List.getElem?_eq_some_iff.1 hk).1; omega
  obtain ⟨y, hy, hfy⟩ := h2 k _ (List.getElem?_eq_getElem hlt)
  rw [hk] at hy; cases hy
  obtain ⟨x, hx, hvx⟩ := hv.at (List.getElem?_eq_getElem hlt)
  exact ⟨x, hx, hf _ _ _ hfy hvx⟩

theorem frz_ok {η η' : Env} {σ : ASt} {w : World} {N : Nat} (h : SR P η σ w) (hown : ∀ id o q, σ.get id = some o → o.own = true → η id = some q → N ≤ q.bl)
    (hro : ∀ b o, η.ro b = some o → η'.ro b = some o) (hnew : ∀ b o, N ≤ b → w.heap[b]? = some o → η'.ro b = some o) : ∀ (n : Nat) (a r : AV) (v : Value), frz P σ n a = some r → VR η a v → VR η' r v := by
  intro n
  induction n with
  | zero => intro a r v hf; simp [frz] at hf
  | succ n ih =>
    intro a r v hf hv
    have lst : ∀ (l r : List AV) (vs : List Value), optMap (frz P σ n) l = some r → VRs η l vs → VRs η' r vs := fun l r vs h1 h2 => optMap_VRs ih h1 h2
    unfold frz at hf
    split at hf
    · next id off len cap =>
      simp only [VR] at hv
      obtain ⟨q, hq, hle, rfl⟩ := hv
      split at hf
      · next h0 => cases hf; subst h0; exact ro_nil
      · next h0 =>
        split at hf
        · next c et opn hg =>
          split at hf
          · next size agg hs ha =>
            split at hf
            · next hsz =>
              split at hf
              · next cs hcs =>
                split at hf
                · next ds hds =>
                  split at hf
                  · next hone =>
                    cases hf
                    obtain ⟨q', hq', ws, elem, fr, hb, rr⟩ := h.obj _ _ hg
                    rw [hq] at hq'; cases hq'
                    have hfull := lst _ _ _ hds (rr.takeVRs hcs)
                    have hl1 := (takeN_some hcs).2.1
                    have hl2 := (optMap_some hds).1
                    have hsz1 : agg = false → size = 1 := fun e => hsz.elim (fun h => absurd (h.1.symm.trans e) (by simp)) (fun h => h)
                    obtain ⟨g1, g2, g3⟩ := grp_ok hsz1 len ds _ hfull (by rw [← hl2, hl1]) hone
                    have hfit := rr.take hcs
                    have hfl := hfull.length
                    simp only [VR]
                    right
                    refine ⟨q.bl, q.ba + off, _, _, size, by rw [grp_length], by rw [grp_length]; exact hle, g1, g2, fun _ => ⟨ws, elem, fr, hnew _ _ (hown id _ q hg rfl hq) hb, ?_, ?_⟩⟩
                    · rw [g3]; rw [← hfl, ← hl2, hl1]; have : 0 < len * size := Nat.mul_pos (by omega) (by omega); omega
                    · rw [g3]
                      intro k x hk
                      rw [List.getElem?_take] at hk
                      split at hk
                      · rw [List.getElem?_drop, Array.getElem?_toList] at hk; exact hk
                      · cases hk
                  · cases hf
                · cases hf
              · cases hf
            · cases hf
          · cases hf
        · cases hf
    · cases hf
      simp only [VR] at hv ⊢
      exact .inl ⟨trivial, hv⟩
    · simp only [Option.map_eq_some_iff] at hf
      obtain ⟨l', hl, rfl⟩ := hf
      simp only [VR] at hv ⊢
      obtain ⟨vs, rfl, hv⟩ := hv
      exact ⟨vs, rfl, lst _ _ _ hl hv⟩
    · simp only [Option.map_eq_some_iff] at hf
      obtain ⟨l', hl, rfl⟩ := hf
      simp only [VR] at hv ⊢
      obtain ⟨vs, rfl, hv⟩ := hv
      exact ⟨vs, rfl, lst _ _ _ hl hv⟩
    · simp only [Option.map_eq_some_iff] at hf
      obtain ⟨x', hx, rfl⟩ := hf
      simp only [VR] at hv ⊢
      obtain ⟨y, rfl, hv⟩ := hv
      exact ⟨y, rfl, ih _ _ _ hx hv⟩
    · split at hf
      · next hu => cases hf; exact VR.ground hu hv hro
      · cases hf

/-! ### Since a world: all that stood is as it was, and what is our own is new -/
structure Fresh (P : Program) (w0 : World) (ro0 : Nat → Option Obj) (η : Env) (σ : ASt) (w : World) : Prop where
  rel : SR P η σ w
  kept : Kept w0 w
  own : ∀ id o q, σ.get id = some o → o.own = true → η id = some q → w0.heap.size ≤ q.bl
  roLe : ∀ b o, ro0 b = some o → η.ro b = some o
  roNew : ∀ b, η.ro b ≠ none → ro0 b ≠ none ∨ w0.heap.size ≤ b

theorem Kept.refl (w : World) : Kept w w := ⟨rfl, rfl, rfl, Nat.le_refl _, fun _ _ => rfl⟩

theorem Fresh.start {η : Env} {σ : ASt} {w : World} (h : SR P η σ w) (hno : ∀ id o, σ.get id = some o → o.own = false) : Fresh P w η.ro η σ w :=
  ⟨h, Kept.refl w, fun id o q h1 h2 => (by rw [hno id o h1] at h2; cases h2), fun _ _ h => h, fun _ h => .inl h⟩

theorem Fresh.step {w0 : World} {ro0 : Nat → Option Obj} {η η' : Env} {σ σ' : ASt} {w w' : World} (h : Fresh P w0 ro0 η σ w) (hl : σ.lock = 0) (k : St P η σ w η' σ' w') : Fresh P w0 ro0 η' σ' w' := by
  refine ⟨k.rel, ⟨k.os.trans h.kept.os, k.tape.trans h.kept.tape, k.output.trans h.kept.output, Nat.le_trans h.kept.size k.size, fun bl hb => ?_⟩, fun id o q h1 h2 h3 => ?_, fun b o hb => k.ext.ro b o (h.roLe b o hb), fun b hb => ?_⟩
  · rw [k.keep bl (Nat.lt_of_lt_of_le hb h.kept.size) (fun id o q a1 a2 _ a4 => by have := h.own id o q a1 a2 a4; omega)]
    exact h.kept.keep bl hb
  · rcases k.own id o q h1 h2 (by rw [hl]; exact Nat.zero_le _) h3 with h4 | ⟨id0, o0, q0, a, b, _, d, e⟩
    · exact Nat.le_trans h.kept.size h4
    · rw [← e]; exact h.own id0 o0 q0 a b d
  · rcases k.roNew b hb with h1 | h1 | ⟨id0, o0, q0, a1, b1, c1, d1, e1⟩
    · exact h.roNew b h1
    · exact .inr (Nat.le_trans h.kept.size h1)
    · right; rw [← e1]; exact h.own id0 o0 q0 a1 b1 d1

/-! ### Calls that keep the state -/
def Fn (P : Program) (f : FuncId) (args : List AV) (R : AV → Prop) : Prop := ∀ η σ w vs, SR P η σ w → VRs η args vs → CallN P f ⟨vs⟩ w fun v w' => ∃ η' r, R r ∧ St P η σ w η' σ w' ∧ VR η' r v

/-- What is new is frozen. -/
theorem Fresh.freeze {η η1 : Env} {σ σ1 : ASt} {w w1 : World} (hS : SR P η σ w) (h : Fresh P w η.ro η1 σ1 w1) {n : Nat} {r r' : AV} {v : Value} (hf : frz P σ1 n r = some r') (hv : VR η1 r v) :
    ∃ η', St P η σ w η' σ w1 ∧ VR η' r' v := by
  let ro' : Nat → Option Obj := fun b => if b < w.heap.size then η.ro b else w1.heap[b]?
  have hlt : ∀ b o, η.ro b = some o → b < w.heap.size := fun b o hb => getLt (hS.roAt b o hb)
  have hle : (η : Env).le ⟨η.pl, ro'⟩ := ⟨fun _ _ h => h, fun b o hb => by show (if _ then _ else _) = _; rw [if_pos (hlt b o hb)]; exact hb⟩
  have hro1 : ∀ b o, η1.ro b = some o → ro' b = some o := by
    intro b o hb
    show (if _ then _ else _) = _
    split
    · next hb2 =>
      rcases h.roNew b (by rw [hb]; simp) with h1 | h1
      · cases he : η.ro b with
        | none => exact absurd he h1
        | some o2 => have := h.roLe b o2 he; rw [hb] at this; exact this.symm
      · omega
    · exact h.rel.roAt b o hb
  refine ⟨⟨η.pl, ro'⟩, ?_, frz_ok (N := w.heap.size) h.rel h.own hro1 (fun b o hb ho => by show (if _ then _ else _) = _; rw [if_neg (by omega)]; exact ho) n r r' v hf hv⟩
  have hk := h.kept
  refine ⟨hle, ⟨hS.glob, hS.dom, fun id o ho => ?_, hS.sep, fun b o hb => ?_, fun id o q a1 a2 a3 => ?_, fun p hp => (hS.tabs p hp).mono hle⟩, hk.size, fun bl hb _ => hk.keep bl hb, fun id o q h1 h2 h3 h4 => .inr ⟨id, o, q, h1, h2, h3, h4, rfl⟩, hk.os, hk.tape, hk.output, rfl, Nat.le_refl _, fun _ _ h => .inl h, fun b hb => ?_⟩
  · obtain ⟨q, hq, hr⟩ := hS.obj id o ho
    exact ⟨q, hq, (OR.heap (hk.keep _ hr.lt) hr).mono hle⟩
  · have hb' : (if b < w.heap.size then η.ro b else w1.heap[b]?) = some o := hb
    split at hb'
    · next hl => rw [hk.keep b hl]; exact hS.roAt b o hb'
    · exact hb'
  · obtain ⟨q', hq', hr⟩ := hS.obj id o a1
    have : η id = some q := a3
    rw [this] at hq'; cases hq'
    show (if q.bl < w.heap.size then η.ro q.bl else w1.heap[q.bl]?) = none
    rw [if_pos hr.lt]
    exact hS.roSep id o q a1 a2 a3
  · have hb' : (if b < w.heap.size then η.ro b else w1.heap[b]?) ≠ none := hb
    split at hb'
    · exact .inl hb'
    · next hl => right; left; omega

/-- From a call of the evaluator at its start. -/
theorem Fn.of_call {call : Caller} {f : FuncId} {σ0 σ' : ASt} {args : List AV} {r r' : AV} (hcall : CallOk P call) (h0 : TabStart σ0 P.globals.size) (hl : σ0.lock = 0) (ha : AV.unders 0 args = true) (hrun : call f args σ0 = some (r, σ')) (n : Nat) (hf : frz P σ' n r = some r') : Fn P f args (· = r') := by
  intro η σ w vs hS hv
  have hS0 := hS.tabStart h0
  refine CallN.mono (hcall f args σ0 _ _ hrun _ w vs hS0 (VRs.ground ha hv (fun _ _ h => h))) ?_
  rintro v w' ⟨η1, hst, hr⟩
  have hF := (Fresh.start hS0 h0.own).step hl hst
  obtain ⟨η', h1, h2⟩ := hF.freeze (η := η) hS hf hr
  exact ⟨η', r', rfl, h1, h2⟩

/-- A function whose value is known for its arguments, as a function of the evaluator's. -/
theorem PrimOk.of_fn {f : FuncId} {g : List AV → Option AV} (h : ∀ args r, g args = some r → Fn P f args (· = r)) : PrimOk P f fun args σ => (g args).map (·, σ) := by
  intro args σ r σ' hs η w vs hS hv
  simp only [Option.map_eq_some_iff, Prod.mk.injEq] at hs
  obtain ⟨r0, hg, rfl, rfl⟩ := hs
  refine CallN.mono (h args r0 hg η σ w vs hS hv) ?_
  rintro v w' ⟨η', r, rfl, h1, h2⟩
  exact ⟨η', h1, h2⟩

end
end Go.Abs
