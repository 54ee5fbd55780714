/- The rows of definitions are as they say: the ways of the bodies, run by the kernel. -/
import Derived.Test.YteenmipdepcibaaGreatDoorKPD
set_option linter.unusedVariables false
set_option linter.unusedSimpArgs false
namespace Go.Proofs.YteenmipdepcibaaGreatDoor
open Go Go.aN
set_option maxRecDepth 100000
namespace P
def chkP (p : List Nd → List (Nat × Bool) → Leaf → Bool) : Tree → List Bool → List Nd → List (Nat × Bool) → Bool
  | .step nd t, q, ns, ds => chkP p t q (ns ++ [nd]) ds
  | .ite n t e, [], ns, ds => t.chk p ns ((n, true) :: ds) && e.chk p ns ((n, false) :: ds)
  | .ite n t _, true :: q, ns, ds => chkP p t q ns ((n, true) :: ds)
  | .ite n _ e, false :: q, ns, ds => chkP p e q ns ((n, false) :: ds)
  | .ret l, _, ns, ds => p ns ds (.ret l)
  | .tail f l, _, ns, ds => p ns ds (.tail f l)
  | .dead, _, _, _ => true
theorem chkP_nil {p : List Nd → List (Nat × Bool) → Leaf → Bool} : ∀ (t : Tree) (ns : List Nd) (ds : List (Nat × Bool)), chkP p t [] ns ds = t.chk p ns ds
  | .step nd t, ns, ds => by simp only [chkP, Tree.chk]; exact chkP_nil t _ _
  | .ite n t e, ns, ds => by simp only [chkP, Tree.chk]
  | .ret l, ns, ds => by simp only [chkP, Tree.chk]
  | .tail f l, ns, ds => by simp only [chkP, Tree.chk]
  | .dead, ns, ds => by simp only [chkP, Tree.chk]
theorem chkP_cut {p : List Nd → List (Nat × Bool) → Leaf → Bool} : ∀ (t : Tree) (q : List Bool) (ns : List Nd) (ds : List (Nat × Bool)), chkP p t (q ++ [true]) ns ds = true → chkP p t (q ++ [false]) ns ds = true → chkP p t q ns ds = true
  | .step nd t, q, ns, ds, h1, h2 => by
    simp only [chkP] at h1 h2 ⊢
    exact chkP_cut t q _ _ h1 h2
  | .ite n t e, [], ns, ds, h1, h2 => by
    simp only [List.nil_append, chkP] at h1 h2 ⊢
    rw [chkP_nil] at h1 h2
    rw [h1, h2]; rfl
  | .ite n t e, true :: q, ns, ds, h1, h2 => by
    simp only [List.cons_append, chkP] at h1 h2 ⊢
    exact chkP_cut t q _ _ h1 h2
  | .ite n t e, false :: q, ns, ds, h1, h2 => by
    simp only [List.cons_append, chkP] at h1 h2 ⊢
    exact chkP_cut e q _ _ h1 h2
  | .ret l, q, ns, ds, h1, _ => by simp only [chkP] at h1 ⊢; exact h1
  | .tail f l, q, ns, ds, h1, _ => by simp only [chkP] at h1 ⊢; exact h1
  | .dead, q, ns, ds, _, _ => by simp only [chkP]
noncomputable def wG (Q : Program) (tabs : List (Nat × List AV)) (pl : kV) (rows : List Row) (q : List Bool) : Option Row → Option aF → Bool
  | some (.fn f st sh pe l), some (.fn wK yD t) => y9 sh yD && (match Q.funcs[f]? with
      | some fn => match fn.body, MN rows f [] pe l with
        | some c, some specs => chkP (Zq Q tabs pl specs 100000 st wK yD fn.ntmps fn.results.toList (mW pe c)) t q (List.replicate wK.length .arg) []
        | _, _ => false
      | none => false)
  | _, _ => false
theorem wG_cut {Q : Program} {tabs : List (Nat × List AV)} {pl : kV} {rows : List Row} (q : List Bool) : ∀ (r : Option Row) (d : Option aF), wG Q tabs pl rows (q ++ [true]) r d = true → wG Q tabs pl rows (q ++ [false]) r d = true → wG Q tabs pl rows q r d = true
  | some (.fn f st sh pe l), some (.fn wK yD t), h1, h2 => by
    simp only [wG, Bool.and_eq_true] at h1 h2 ⊢
    refine ⟨h1.1, ?_⟩
    have h1 := h1.2
    have h2 := h2.2
    cases hf : Q.funcs[f]? with
    | none => rw [hf] at h1; cases h1
    | some fn =>
      rw [hf] at h1 h2
      simp only at h1 h2 ⊢
      cases hb : fn.body with
      | none => rw [hb] at h1; cases h1
      | some c =>
        rw [hb] at h1 h2
        cases hs : MN rows f [] pe l with
        | none => rw [hs] at h1; cases h1
        | some specs =>
          rw [hs] at h1 h2
          exact chkP_cut t q _ _ h1 h2
theorem wG_nil {Q : Program} {tabs : List (Nat × List AV)} {pl : kV} {rows : List Row} {Ds : List aF} {k : Nat} (h : wG Q tabs pl rows [] rows[k]? Ds[k]? = true) : eY Q tabs pl rows Ds k 1 = true := by
  simp only [eY, Bool.and_true]
  unfold XL
  cases hr : rows[k]? with
  | none => rw [hr] at h; simp [wG] at h
  | some r =>
    cases hd : Ds[k]? with
    | none => rw [hr, hd] at h; cases r <;> simp [wG] at h
    | some d =>
      rw [hr, hd] at h
      cases r with
      | fn f st sh pe l =>
        cases d with
        | fn wK yD t =>
          simp only [wG, Bool.and_eq_true, chkP_nil] at h
          simp only [Bool.or_eq_true, XM, hr, Bool.and_eq_true]
          exact .inr h
        | _ => simp [wG] at h
      | _ => cases d <;> simp [wG] at h
noncomputable def w4 (q : List Bool) : Bool := wG Tryz.prog bU pl rows q rows[4]? Ds[4]?
theorem w4_T : w4 [true] = true := by kernel_rfl
theorem w4_FT : w4 [false, true] = true := by kernel_rfl
theorem w4_FFT : w4 [false, false, true] = true := by kernel_rfl
theorem w4_FFFT : w4 [false, false, false, true] = true := by kernel_rfl
theorem w4_FFFFT : w4 [false, false, false, false, true] = true := by kernel_rfl
theorem w4_FFFFFT : w4 [false, false, false, false, false, true] = true := by kernel_rfl
theorem w4_FFFFFFT : w4 [false, false, false, false, false, false, true] = true := by kernel_rfl
theorem w4_FFFFFFFT : w4 [false, false, false, false, false, false, false, true] = true := by kernel_rfl
theorem w4_FFFFFFFFT : w4 [false, false, false, false, false, false, false, false, true] = true := by kernel_rfl
theorem w4_FFFFFFFFFT : w4 [false, false, false, false, false, false, false, false, false, true] = true := by kernel_rfl
theorem w4_FFFFFFFFFFT : w4 [false, false, false, false, false, false, false, false, false, false, true] = true := by kernel_rfl
theorem w4_FFFFFFFFFFFTTTTT : w4 [false, false, false, false, false, false, false, false, false, false, false, true, true, true, true, true] = true := by kernel_rfl
theorem w4_FFFFFFFFFFFTTTTF : w4 [false, false, false, false, false, false, false, false, false, false, false, true, true, true, true, false] = true := by kernel_rfl
theorem w4_FFFFFFFFFFFTTTFT : w4 [false, false, false, false, false, false, false, false, false, false, false, true, true, true, false, true] = true := by kernel_rfl
theorem w4_FFFFFFFFFFFTTTFF : w4 [false, false, false, false, false, false, false, false, false, false, false, true, true, true, false, false] = true := by kernel_rfl
theorem w4_FFFFFFFFFFFTTF : w4 [false, false, false, false, false, false, false, false, false, false, false, true, true, false] = true := by kernel_rfl
theorem w4_FFFFFFFFFFFTF : w4 [false, false, false, false, false, false, false, false, false, false, false, true, false] = true := by kernel_rfl
theorem w4_FFFFFFFFFFFF : w4 [false, false, false, false, false, false, false, false, false, false, false, false] = true := by kernel_rfl
theorem g4:eY Tryz.prog bU pl rows Ds 4 1=true:=wG_nil (show w4 [] = true from (wG_cut [] _ _ w4_T (wG_cut [false] _ _ w4_FT (wG_cut [false, false] _ _ w4_FFT (wG_cut [false, false, false] _ _ w4_FFFT (wG_cut [false, false, false, false] _ _ w4_FFFFT (wG_cut [false, false, false, false, false] _ _ w4_FFFFFT (wG_cut [false, false, false, false, false, false] _ _ w4_FFFFFFT (wG_cut [false, false, false, false, false, false, false] _ _ w4_FFFFFFFT (wG_cut [false, false, false, false, false, false, false, false] _ _ w4_FFFFFFFFT (wG_cut [false, false, false, false, false, false, false, false, false] _ _ w4_FFFFFFFFFT (wG_cut [false, false, false, false, false, false, false, false, false, false] _ _ w4_FFFFFFFFFFT (wG_cut [false, false, false, false, false, false, false, false, false, false, false] _ _ (wG_cut [false, false, false, false, false, false, false, false, false, false, false, true] _ _ (wG_cut [false, false, false, false, false, false, false, false, false, false, false, true, true] _ _ (wG_cut [false, false, false, false, false, false, false, false, false, false, false, true, true, true] _ _ (wG_cut [false, false, false, false, false, false, false, false, false, false, false, true, true, true, true] _ _ w4_FFFFFFFFFFFTTTTT w4_FFFFFFFFFFFTTTTF) (wG_cut [false, false, false, false, false, false, false, false, false, false, false, true, true, true, false] _ _ w4_FFFFFFFFFFFTTTFT w4_FFFFFFFFFFFTTTFF)) w4_FFFFFFFFFFFTTF) w4_FFFFFFFFFFFTF) w4_FFFFFFFFFFFF)))))))))))))
theorem g0:eY Tryz.prog bU pl rows Ds 0 4=true:=by kernel_rfl
theorem g53:eY Tryz.prog bU pl rows Ds 53 5=true:=by kernel_rfl
theorem g67:eY Tryz.prog bU pl rows Ds 67 8=true:=by kernel_rfl
theorem aqu:eY Tryz.prog bU pl rows Ds 105 3=true:=by kernel_rfl
theorem aqz:eY Tryz.prog bU pl rows Ds 128 3=true:=by kernel_rfl
theorem aqC:eY Tryz.prog bU pl rows Ds 144 1=true:=by kernel_rfl
theorem aqH:eY Tryz.prog bU pl rows Ds 177 1=true:=by kernel_rfl
theorem aqK:eY Tryz.prog bU pl rows Ds 191 2=true:=by kernel_rfl
theorem aqP:eY Tryz.prog bU pl rows Ds 206 4=true:=by kernel_rfl
theorem aqR:eY Tryz.prog bU pl rows Ds 218 2=true:=by kernel_rfl
theorem aqT:eY Tryz.prog bU pl rows Ds 221 1=true:=by kernel_rfl
theorem aqV:eY Tryz.prog bU pl rows Ds 230 9=true:=by kernel_rfl
theorem aq1:eY Tryz.prog bU pl rows Ds 251 2=true:=by kernel_rfl
theorem aq4:eY Tryz.prog bU pl rows Ds 255 8=true:=by kernel_rfl
theorem aq5:eY Tryz.prog bU pl rows Ds 263 2=true:=by kernel_rfl
theorem g21:eY Tryz.prog bU pl rows Ds 21 14=true:=by kernel_rfl
theorem g46:eY Tryz.prog bU pl rows Ds 46 7=true:=by kernel_rfl
theorem g65:eY Tryz.prog bU pl rows Ds 65 1=true:=by kernel_rfl
theorem g66:eY Tryz.prog bU pl rows Ds 66 1=true:=by kernel_rfl
theorem g78:eY Tryz.prog bU pl rows Ds 78 1=true:=by kernel_rfl
theorem g79:eY Tryz.prog bU pl rows Ds 79 1=true:=by kernel_rfl
theorem g80:eY Tryz.prog bU pl rows Ds 80 25=true:=by kernel_rfl
theorem aqv:eY Tryz.prog bU pl rows Ds 108 1=true:=by kernel_rfl
theorem aqw:eY Tryz.prog bU pl rows Ds 109 1=true:=by kernel_rfl
theorem aqy:eY Tryz.prog bU pl rows Ds 121 7=true:=by kernel_rfl
theorem aqE:eY Tryz.prog bU pl rows Ds 164 1=true:=by kernel_rfl
theorem aqF:eY Tryz.prog bU pl rows Ds 165 7=true:=by kernel_rfl
theorem aqJ:eY Tryz.prog bU pl rows Ds 182 9=true:=by kernel_rfl
theorem aqU:eY Tryz.prog bU pl rows Ds 222 8=true:=by kernel_rfl
theorem aqW:eY Tryz.prog bU pl rows Ds 239 1=true:=by kernel_rfl
theorem aqX:eY Tryz.prog bU pl rows Ds 240 1=true:=by kernel_rfl
