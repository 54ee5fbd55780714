/- A row of a function of blocks, cut. -/
import Derived.Test.YtogfeeabnklegaaGreatDoorAbsCut
namespace Go.aP
set_option linter.all false
abbrev yy1:=true
abbrev yy0:=false
noncomputable def yyG (P : Program) (tabs : List (Nat × List AV)) (pl : nJ) (rows : List Row) (k : Nat) (q : List Bool) : Option Row → Option aH → Bool
  | some (.fs f st sp pe l), some (.tree n t) => Nat.beq n sp.pre.np && (match P.funcs[f]? with
      | some fn => match fn.body, PE rows f [] pe l with
        | some c, some specs => zzP (abN P tabs pl specs 100000 st sp fn.ntmps fn.results.toList (pK pe c)) t q (List.replicate sp.pre.np .arg) []
        | _, _ => false
      | none => false)
  | _, _ => false
theorem yyGc {P : Program} {tabs : List (Nat × List AV)} {pl : nJ} {rows : List Row} {k : Nat} (q : List Bool) : ∀ (r : Option Row) (d : Option aH), yyG P tabs pl rows k (q ++ [true]) r d = true → yyG P tabs pl rows k (q ++ [false]) r d = true → yyG P tabs pl rows k q r d = true
  | some (.fs f st sp pe l), some (.tree n t), h1, h2 => by
    simp only [yyG, Bool.and_eq_true] at h1 h2 ⊢
    refine ⟨h1.1, ?_⟩
    have h1 := h1.2
    have h2 := h2.2
    cases hf : P.funcs[f]? with
    | none => rw [hf] at h1; cases h1
    | some fn =>
      rw [hf] at h1 h2
      simp only at h1 h2 ⊢
      cases hb : fn.body with
      | none => rw [hb] at h1; cases h1
      | some c =>
        rw [hb] at h1 h2
        cases hs : PE rows f [] pe l with
        | none => rw [hs] at h1; cases h1
        | some specs =>
          rw [hs] at h1 h2
          exact zzPc t q _ _ h1 h2
theorem yyGn {P : Program} {tabs : List (Nat × List AV)} {pl : nJ} {rows : List Row} {Ds : List aH} {k : Nat} (h : yyG P tabs pl rows k [] rows[k]? Ds[k]? = true) : fK P tabs pl rows Ds k 1 = true := by
  simp only [fK, Bool.and_true]
  unfold aad
  cases hr : rows[k]? with
  | none => rw [hr] at h; simp [yyG] at h
  | some r =>
    cases hd : Ds[k]? with
    | none => rw [hr, hd] at h; cases r <;> simp [yyG] at h
    | some d =>
      rw [hr, hd] at h
      cases r with
      | fs f st sp pe l =>
        cases d with
        | tree n t =>
          simp only [yyG, Bool.and_eq_true, zzPn] at h
          simp only [Bool.or_eq_true, aae, hr, Bool.and_eq_true]
          exact .inr h
        | _ => simp [yyG] at h
      | _ => cases d <;> simp [yyG] at h
end Go.aP
