/- The check of a great row, cut into pieces along the first decisions. -/
import Derived.Test.YtogfeeabnklegaaGreatDoorAbsTab
namespace Go.aP
set_option linter.all false
abbrev zz1 : Bool := true
abbrev zz0 : Bool := false
def zzP (p : List Nd → List (Nat × Bool) → Leaf → Bool) : Tree → List Bool → List Nd → List (Nat × Bool) → Bool
  | .step nd t, q, ns, ds => zzP p t q (ns ++ [nd]) ds
  | .ite n t e, [], ns, ds => t.chk p ns ((n, true) :: ds) && e.chk p ns ((n, false) :: ds)
  | .ite n t _, true :: q, ns, ds => zzP p t q ns ((n, true) :: ds)
  | .ite n _ e, false :: q, ns, ds => zzP p e q ns ((n, false) :: ds)
  | .ret l, _, ns, ds => p ns ds (.ret l)
  | .tail f l, _, ns, ds => p ns ds (.tail f l)
  | .dead, _, _, _ => true
theorem zzPn {p : List Nd → List (Nat × Bool) → Leaf → Bool} : ∀ (t : Tree) (ns : List Nd) (ds : List (Nat × Bool)), zzP p t [] ns ds = t.chk p ns ds
  | .step nd t, ns, ds => by simp only [zzP, Tree.chk]; exact zzPn t _ _
  | .ite n t e, ns, ds => by simp only [zzP, Tree.chk]
  | .ret l, ns, ds => by simp only [zzP, Tree.chk]
  | .tail f l, ns, ds => by simp only [zzP, Tree.chk]
  | .dead, ns, ds => by simp only [zzP, Tree.chk]
theorem zzPc {p : List Nd → List (Nat × Bool) → Leaf → Bool} : ∀ (t : Tree) (q : List Bool) (ns : List Nd) (ds : List (Nat × Bool)), zzP p t (q ++ [true]) ns ds = true → zzP p t (q ++ [false]) ns ds = true → zzP p t q ns ds = true
  | .step nd t, q, ns, ds, h1, h2 => by
    simp only [zzP] at h1 h2 ⊢
    exact zzPc t q _ _ h1 h2
  | .ite n t e, [], ns, ds, h1, h2 => by
    simp only [List.nil_append, zzP] at h1 h2 ⊢
    rw [zzPn] at h1 h2
    rw [h1, h2]; rfl
  | .ite n t e, true :: q, ns, ds, h1, h2 => by
    simp only [List.cons_append, zzP] at h1 h2 ⊢
    exact zzPc t q _ _ h1 h2
  | .ite n t e, false :: q, ns, ds, h1, h2 => by
    simp only [List.cons_append, zzP] at h1 h2 ⊢
    exact zzPc e q _ _ h1 h2
  | .ret l, q, ns, ds, h1, _ => by simp only [zzP] at h1 ⊢; exact h1
  | .tail f l, q, ns, ds, h1, _ => by simp only [zzP] at h1 ⊢; exact h1
  | .dead, q, ns, ds, _, _ => by simp only [zzP]
noncomputable def zzG (P : Program) (tabs : List (Nat × List AV)) (pl : nJ) (rows : List Row) (k : Nat) (q : List Bool) : Option Row → Option aH → Bool
  | some (.fn f st sh pe l), some (.fn zh Bc t) => BP sh Bc && (match P.funcs[f]? with
      | some fn => match fn.body, PE rows f [] pe l with
        | some c, some specs => zzP (abM P tabs pl specs 100000 st zh Bc fn.ntmps fn.results.toList (pK pe c)) t q (List.replicate zh.length .arg) []
        | _, _ => false
      | none => false)
  | some (.lp f way sp ps l), some (.tree n t) => Nat.beq n sp.pre.np && (Nat.beq sp.key k && sp.pre.ok) && (match PE rows f way ps l with
      | some specs => zzP (Xk P tabs pl specs 100000 sp (pK ps (yJ (JB P f) way))) t q (List.replicate sp.pre.np .arg) []
      | none => false)
  | _, _ => false
theorem zzGc {P : Program} {tabs : List (Nat × List AV)} {pl : nJ} {rows : List Row} {k : Nat} (q : List Bool) : ∀ (r : Option Row) (d : Option aH), zzG P tabs pl rows k (q ++ [true]) r d = true → zzG P tabs pl rows k (q ++ [false]) r d = true → zzG P tabs pl rows k q r d = true
  | some (.fn f st sh pe l), some (.fn zh Bc t), h1, h2 => by
    simp only [zzG, Bool.and_eq_true] at h1 h2 ⊢
    refine ⟨h1.1, ?_⟩
    have h1 := h1.2
    have h2 := h2.2
    cases hf : P.funcs[f]? with
    | none => rw [hf] at h1; cases h1
    | some fn =>
      rw [hf] at h1 h2
      simp only at h1 h2 ⊢
      cases hb : fn.body with
      | none => rw [hb] at h1; cases h1
      | some c =>
        rw [hb] at h1 h2
        cases hs : PE rows f [] pe l with
        | none => rw [hs] at h1; cases h1
        | some specs =>
          rw [hs] at h1 h2
          exact zzPc t q _ _ h1 h2
  | some (.lp f way sp ps l), some (.tree n t), h1, h2 => by
    simp only [zzG, Bool.and_eq_true] at h1 h2 ⊢
    refine ⟨h1.1, ?_⟩
    have h1 := h1.2
    have h2 := h2.2
    cases hs : PE rows f way ps l with
    | none => rw [hs] at h1; cases h1
    | some specs =>
      rw [hs] at h1 h2
      exact zzPc t q _ _ h1 h2
theorem zzGn {P : Program} {tabs : List (Nat × List AV)} {pl : nJ} {rows : List Row} {Ds : List aH} {k : Nat} (h : zzG P tabs pl rows k [] rows[k]? Ds[k]? = true) : fK P tabs pl rows Ds k 1 = true := by
  simp only [fK, Bool.and_true]
  unfold aad
  cases hr : rows[k]? with
  | none => rw [hr] at h; simp [zzG] at h
  | some r =>
    cases hd : Ds[k]? with
    | none => rw [hr, hd] at h; cases r <;> simp [zzG] at h
    | some d =>
      rw [hr, hd] at h
      cases r with
      | fn f st sh pe l =>
        cases d with
        | fn zh Bc t =>
          simp only [zzG, Bool.and_eq_true, zzPn] at h
          simp only [Bool.or_eq_true, aae, hr, Bool.and_eq_true]
          exact .inr h
        | _ => simp [zzG] at h
      | lp f way sp ps l =>
        cases d with
        | tree n t =>
          simp only [zzG, Bool.and_eq_true, zzPn] at h
          simp only [Bool.or_eq_true, aae, hr, Bool.and_eq_true]
          exact .inr h
        | _ => simp [zzG] at h
      | _ => cases d <;> simp [zzG] at h
end Go.aP
