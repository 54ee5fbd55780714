/- Lengths, conversions, comparisons, building, assertions, interface values. -/
import Derived.Test.YtincemehblfipaaGreatDoorAbsOps3
namespace Go.Abs
noncomputable section
variable [TabsOf]
set_option linter.unusedSectionVars false
set_option linter.unusedVariables false
set_option linter.unusedSimpArgs false
variable {P : Program} {η : Env} {σ σ' : ASt} {w : World}

theorem len_ok (h : SR P η σ w) {t : TypeId} {ts : Array TypeId} {ty : TypeId} {a v : AV} {x : Value} (ht : ts[0]? = some t) (hs : aLen P σ t a = some v) (hx : VR η a x) :
    ∃ y, (Builtin.len_ ts ty #[x]).run P w = .ok y w ∧ VR η v y := by
  unfold aLen at hs
  split at hs
  · next s hu => cases hs; simp only [VR] at hx; subst hx; exact ⟨.int .i64 s.length, by simp [Builtin.len_, ht, run_under hu, goInt, strSize], by simp [VR]⟩
  · next e hu => cases hs; simp only [VR] at hx; subst hx; exact ⟨.int .i64 0, by simp [Builtin.len_, ht, run_under hu, goInt], by simp [VR]⟩
  · next e id off n cap hu => cases hs; simp only [VR] at hx; obtain ⟨q, hq, _, rfl⟩ := hx; exact ⟨.int .i64 n, by simp [Builtin.len_, ht, run_under hu, goInt], by simp [VR]⟩
  · next e l hu => cases hs; simp only [VR] at hx; rcases hx with ⟨rfl, rfl⟩ | ⟨bl, off, c, xs, sz, rfl, _⟩; exact ⟨.int .i64 0, by simp [Builtin.len_, ht, run_under hu, goInt], by simp [VR]⟩; exact ⟨.int .i64 l.length, by simp [Builtin.len_, ht, run_under hu, goInt], by simp [VR]⟩
  · next e1 e2 hu => cases hs; simp only [VR] at hx; subst hx; exact ⟨.int .i64 0, by simp [Builtin.len_, ht, run_under hu, goInt], by simp [VR]⟩
  · next e1 e2 id hu =>
    split at hs
    · next es hg =>
      cases hs
      simp only [VR] at hx; obtain ⟨q, hq, rfl⟩ := hx
      obtain ⟨q', hq', ms, clock, hb, hsz, _⟩ := h.obj _ _ hg
      rw [hq] at hq'; cases hq'
      refine ⟨.int .i64 es.length, ?_, by simp [VR]⟩
      simp [Builtin.len_, ht, run_under hu, goInt, getObj, Sem.run, hb, hsz]
    · cases hs
  · next _ n _ hu => cases hs; exact ⟨.int .i64 n, by cases x <;> simp [Builtin.len_, ht, run_under hu, goInt], by simp [VR]⟩
  · cases hs

theorem under_int {t : TypeId} (h : P.underlying t = none) : True := trivial

theorem optMapIff {α β : Type} {f : α → β} {o : Option α} {y : β} : o.map f = some y ↔ ∃ x, o = some x ∧ f x = y := by cases o <;> simp

theorem beqAddr (b o i j : Nat) : ((⟨b, o + i, none⟩ : Addr) == ⟨b, o + j, none⟩) = (i == j) := by
  rw [Bool.eq_iff_iff]; simp

section
variable {t e : TypeId}
theorem eq_ptr_same {n : Nat} (hu : P.underlying t = some (.pointer e)) (hn : sizeT P e = some n) (h0 : n ≠ 0) (b o i j : Nat) :
    (Op.equal t (.pointer (some ⟨b, o + i, none⟩)) (.pointer (some ⟨b, o + j, none⟩))).run P w = .ok (i == j) w := by
  have H : ∀ d : Nat, (Op.equalIn (d + 1) t (.pointer (some ⟨b, o + i, none⟩)) (.pointer (some ⟨b, o + j, none⟩))).run P w = .ok (i == j) w := fun d => by
    simp only [Op.equalIn, Sem.run_bind, run_under hu, Result.andThen_ok, run_size hn, if_pos h0, Sem.run_ite]
    simp only [sameAddr, beq_self_eq_true, if_true, Sem.run_pure, beqAddr, Sem.run_bind, Result.andThen_ok]
  exact H 9999
theorem eq_ptr_nil (hu : P.underlying t = some (.pointer e)) (a : Addr) : (Op.equal t (.pointer (some a)) (.pointer none)).run P w = .ok false w := by
  have H : ∀ d : Nat, (Op.equalIn (d + 1) t (.pointer (some a)) (.pointer none)).run P w = .ok false w := fun d => by
    simp only [Op.equalIn, Sem.run_bind, run_under hu, Result.andThen_ok, Sem.run_pure]
  exact H 9999
theorem eq_nil_ptr (hu : P.underlying t = some (.pointer e)) (a : Addr) : (Op.equal t (.pointer none) (.pointer (some a))).run P w = .ok false w := by
  have H : ∀ d : Nat, (Op.equalIn (d + 1) t (.pointer none) (.pointer (some a))).run P w = .ok false w := fun d => by
    simp only [Op.equalIn, Sem.run_bind, run_under hu, Result.andThen_ok, Sem.run_pure, Option.isNone_some]
  exact H 9999
theorem eq_sl_nil (hu : P.underlying t = some (.slice e)) (a : Addr) (l c : Nat) : (Op.equal t (.slice (some a) l c) (.slice none 0 0)).run P w = .ok false w := by
  have H : ∀ d : Nat, (Op.equalIn (d + 1) t (.slice (some a) l c) (.slice none 0 0)).run P w = .ok false w := fun d => by
    simp only [Op.equalIn, Sem.run_bind, run_under hu, Result.andThen_ok, Sem.run_pure]
  exact H 9999
theorem eq_nil_sl (hu : P.underlying t = some (.slice e)) (a : Addr) (l c : Nat) : (Op.equal t (.slice none 0 0) (.slice (some a) l c)).run P w = .ok false w := by
  have H : ∀ d : Nat, (Op.equalIn (d + 1) t (.slice none 0 0) (.slice (some a) l c)).run P w = .ok false w := fun d => by
    simp only [Op.equalIn, Sem.run_bind, run_under hu, Result.andThen_ok, Sem.run_pure, Option.isNone_some]
  exact H 9999
theorem eq_ifc_nil {ms : Array (String × TypeId)} (hu : P.underlying t = some (.interface ms)) (u : TypeId) (x : Value) : (Op.equal t (.iface u x) .nilIface).run P w = .ok false w := by
  have H : ∀ d : Nat, (Op.equalIn (d + 1) t (.iface u x) .nilIface).run P w = .ok false w := fun d => by
    simp only [Op.equalIn, Sem.run_bind, run_under hu, Result.andThen_ok, Sem.run_pure]
  exact H 9999
theorem eq_nil_ifc {ms : Array (String × TypeId)} (hu : P.underlying t = some (.interface ms)) (u : TypeId) (x : Value) : (Op.equal t .nilIface (.iface u x)).run P w = .ok false w := by
  have H : ∀ d : Nat, (Op.equalIn (d + 1) t .nilIface (.iface u x)).run P w = .ok false w := fun d => by
    simp only [Op.equalIn, Sem.run_bind, run_under hu, Result.andThen_ok, Sem.run_pure]
  exact H 9999
theorem eq_map_nil {k : TypeId} (hu : P.underlying t = some (.map k e)) (r : Nat) : (Op.equal t (.map (some r)) (.map none)).run P w = .ok false w := by
  have H : ∀ d : Nat, (Op.equalIn (d + 1) t (.map (some r)) (.map none)).run P w = .ok false w := fun d => by
    simp only [Op.equalIn, Sem.run_bind, run_under hu, Result.andThen_ok, Sem.run_pure]
  exact H 9999
theorem eq_nil_map {k : TypeId} (hu : P.underlying t = some (.map k e)) (r : Nat) : (Op.equal t (.map none) (.map (some r))).run P w = .ok false w := by
  have H : ∀ d : Nat, (Op.equalIn (d + 1) t (.map none) (.map (some r))).run P w = .ok false w := fun d => by
    simp only [Op.equalIn, Sem.run_bind, run_under hu, Result.andThen_ok, Sem.run_pure, Option.isNone_some]
  exact H 9999
end

/-- '==' and '!=' by the model's equality: two values that are no two nil interface values, nor both aggregates. -/
theorem bin_eql {t : TypeId} {x y : Operand} {u u' : Value} {r : Bool} (h : (Op.equal t u u').run P w = .ok r w)
    (hb : binOp .eql t u u' = (do pure (.bool (← Op.equal t u u')))) (hg : (eqGuard .eql t x y u u').run P w = .ok () w) :
    (do eqGuard .eql t x y u u'; binOp .eql t u u' : Sem Value).run P w = .ok (.bool r) w := by
  simp only [Sem.run_bind, hg, Result.andThen_ok, hb, h, Sem.run_pure]
theorem bin_neq {t : TypeId} {x y : Operand} {u u' : Value} {r : Bool} (h : (Op.equal t u u').run P w = .ok r w)
    (hb : binOp .neq t u u' = (do pure (.bool (!(← Op.equal t u u'))))) (hg : (eqGuard .neq t x y u u').run P w = .ok () w) :
    (do eqGuard .neq t x y u u'; binOp .neq t u u' : Sem Value).run P w = .ok (.bool (!r)) w := by
  simp only [Sem.run_bind, hg, Result.andThen_ok, hb, h, Sem.run_pure]

theorem cmpZ_ok {op : BinOp} {t : TypeId} {x y : Operand} {k : IntKind} {a b c d m n : Int} {v : AV} (hs : cmpZ op a b c d = some v) (h1 : a ≤ m) (h2 : m ≤ b) (h3 : c ≤ n) (h4 : n ≤ d) :
    ∃ z, (do eqGuard op t x y (.int k m) (.int k n); binOp op t (.int k m) (.int k n) : Sem Value).run P w = .ok z w ∧ VR η v z := by
  have key : ∀ (op : BinOp) (r : Bool), (eqGuard op t x y (.int k m) (.int k n)).run P w = .ok () w → binOp op t (.int k m) (.int k n) = (if k ≠ k then stuck "BinOp: operands of different kinds" else Op.intCmp op m n) → Op.intCmp op m n = pure (.bool r) →
      (do eqGuard op t x y (.int k m) (.int k n); binOp op t (.int k m) (.int k n) : Sem Value).run P w = .ok (.bool r) w := by
    intro op r hg hb hc
    rw [Sem.run_bind, hg, Result.andThen_ok, hb, if_neg (by simp), hc]
    rfl
  cases op <;> simp only [cmpZ, reduceCtorEq] at hs
  all_goals split at hs
  all_goals try split at hs
  all_goals cases hs
  all_goals refine ⟨_, key _ _ rfl rfl rfl, ?_⟩
  all_goals simp only [VR, Value.bool.injEq]
  all_goals first | (exact decide_eq_true (by omega)) | (exact decide_eq_false (by omega)) | (simp; omega) | skip

theorem bin_ok (h : SR P η σ w) {op : BinOp} {t : TypeId} {x y : Operand} {a b v : AV} {u u' : Value} (hs : aBin P op t x y a b = some v) (hx : VR η a u) (hy : VR η b u') :
    ∃ z, (do eqGuard op t x y u u'; binOp op t u u' : Sem Value).run P w = .ok z w ∧ VR η v z := by
  unfold aBin at hs
  split at hs
  · split at hs
    · next e hu =>
      split at hs
      · next n hn =>
        split at hs
        · next hc =>
          cases hs
          obtain ⟨rfl, h0⟩ := hc
          simp only [VR] at hx hy
          obtain ⟨q, hq, rfl⟩ := hx
          obtain ⟨q', hq', rfl⟩ := hy
          rw [hq] at hq'; cases hq'
          exact ⟨_, bin_eql (eq_ptr_same hu hn h0 _ _ _ _) rfl rfl, by simp only [VR]⟩
        · cases hs
      · cases hs
    · cases hs
  · split at hs
    · next e hu =>
      split at hs
      · next n hn =>
        split at hs
        · next hc =>
          cases hs
          obtain ⟨rfl, h0⟩ := hc
          simp only [VR] at hx hy
          obtain ⟨q, hq, rfl⟩ := hx
          obtain ⟨q', hq', rfl⟩ := hy
          rw [hq] at hq'; cases hq'
          exact ⟨_, bin_neq (eq_ptr_same hu hn h0 _ _ _ _) rfl rfl, by simp only [VR]⟩
        · cases hs
      · cases hs
    · cases hs
  · split at hs
    · next hu => cases hs; simp only [VR] at hx hy; obtain ⟨q, hq, rfl⟩ := hx; subst hy; exact ⟨_, bin_eql (eq_ptr_nil hu _) rfl rfl, by simp only [VR]⟩
    · cases hs
  · split at hs
    · next hu => cases hs; simp only [VR] at hx hy; obtain ⟨q, hq, rfl⟩ := hy; subst hx; exact ⟨_, bin_eql (eq_nil_ptr hu _) rfl rfl, by simp only [VR]⟩
    · cases hs
  · split at hs
    · next hu => cases hs; simp only [VR] at hx hy; obtain ⟨q, hq, rfl⟩ := hx; subst hy; exact ⟨_, bin_neq (eq_ptr_nil hu _) rfl rfl, by simp only [VR]; rfl⟩
    · cases hs
  · split at hs
    · next hu => cases hs; simp only [VR] at hx hy; obtain ⟨q, hq, rfl⟩ := hy; subst hx; exact ⟨_, bin_neq (eq_nil_ptr hu _) rfl rfl, by simp only [VR]; rfl⟩
    · cases hs
  · split at hs
    · next hu => cases hs; simp only [VR] at hx hy; obtain ⟨bl, off, c, xs, sz, rfl, _⟩ := hx.resolve_left (by simp); subst hy; exact ⟨_, bin_eql (eq_sl_nil hu _ _ _) rfl rfl, by simp only [VR]⟩
    · cases hs
  · split at hs
    · next hu => cases hs; simp only [VR] at hx hy; obtain ⟨bl, off, c, xs, sz, rfl, _⟩ := hy.resolve_left (by simp); subst hx; exact ⟨_, bin_eql (eq_nil_sl hu _ _ _) rfl rfl, by simp only [VR]⟩
    · cases hs
  · split at hs
    · next hu => cases hs; simp only [VR] at hx hy; obtain ⟨bl, off, c, xs, sz, rfl, _⟩ := hx.resolve_left (by simp); subst hy; exact ⟨_, bin_neq (eq_sl_nil hu _ _ _) rfl rfl, by simp only [VR]; rfl⟩
    · cases hs
  · split at hs
    · next hu => cases hs; simp only [VR] at hx hy; obtain ⟨bl, off, c, xs, sz, rfl, _⟩ := hy.resolve_left (by simp); subst hx; exact ⟨_, bin_neq (eq_nil_sl hu _ _ _) rfl rfl, by simp only [VR]; rfl⟩
    · cases hs
  · split at hs
    · next hu => cases hs; simp only [VR] at hx hy; obtain ⟨bl, base, cs, elem, fr, x, _, _, rfl, _⟩ := hx; subst hy; exact ⟨_, bin_eql (eq_ptr_nil hu _) rfl rfl, by simp only [VR]⟩
    · cases hs
  · split at hs
    · next hu => cases hs; simp only [VR] at hx hy; obtain ⟨bl, base, cs, elem, fr, x, _, _, rfl, _⟩ := hy; subst hx; exact ⟨_, bin_eql (eq_nil_ptr hu _) rfl rfl, by simp only [VR]⟩
    · cases hs
  · split at hs
    · next hu => cases hs; simp only [VR] at hx hy; obtain ⟨bl, base, cs, elem, fr, x, _, _, rfl, _⟩ := hx; subst hy; exact ⟨_, bin_neq (eq_ptr_nil hu _) rfl rfl, by simp only [VR]; rfl⟩
    · cases hs
  · split at hs
    · next hu => cases hs; simp only [VR] at hx hy; obtain ⟨bl, base, cs, elem, fr, x, _, _, rfl, _⟩ := hy; subst hx; exact ⟨_, bin_neq (eq_nil_ptr hu _) rfl rfl, by simp only [VR]; rfl⟩
    · cases hs
  · split at hs
    · next hu => cases hs; simp only [VR] at hx hy; obtain ⟨q, hq, _, rfl⟩ := hx; subst hy; exact ⟨_, bin_eql (eq_sl_nil hu _ _ _) rfl rfl, by simp only [VR]⟩
    · cases hs
  · split at hs
    · next hu => cases hs; simp only [VR] at hx hy; obtain ⟨q, hq, _, rfl⟩ := hy; subst hx; exact ⟨_, bin_eql (eq_nil_sl hu _ _ _) rfl rfl, by simp only [VR]⟩
    · cases hs
  · split at hs
    · next hu => cases hs; simp only [VR] at hx hy; obtain ⟨q, hq, _, rfl⟩ := hx; subst hy; exact ⟨_, bin_neq (eq_sl_nil hu _ _ _) rfl rfl, by simp only [VR]; rfl⟩
    · cases hs
  · split at hs
    · next hu => cases hs; simp only [VR] at hx hy; obtain ⟨q, hq, _, rfl⟩ := hy; subst hx; exact ⟨_, bin_neq (eq_nil_sl hu _ _ _) rfl rfl, by simp only [VR]; rfl⟩
    · cases hs
  · split at hs
    · next hu => cases hs; simp only [VR] at hx hy; obtain ⟨q, rfl, hq⟩ := hx; subst hy; exact ⟨_, bin_eql (eq_ifc_nil hu _ _) rfl rfl, by simp only [VR]⟩
    · cases hs
  · split at hs
    · next hu => cases hs; simp only [VR] at hx hy; obtain ⟨q, rfl, hq⟩ := hy; subst hx; exact ⟨_, bin_eql (eq_nil_ifc hu _ _) rfl rfl, by simp only [VR]⟩
    · cases hs
  · split at hs
    · next hu => cases hs; simp only [VR] at hx hy; obtain ⟨q, rfl, hq⟩ := hx; subst hy; exact ⟨_, bin_neq (eq_ifc_nil hu _ _) rfl rfl, by simp only [VR]; rfl⟩
    · cases hs
  · split at hs
    · next hu => cases hs; simp only [VR] at hx hy; obtain ⟨q, rfl, hq⟩ := hy; subst hx; exact ⟨_, bin_neq (eq_nil_ifc hu _ _) rfl rfl, by simp only [VR]; rfl⟩
    · cases hs
  · split at hs
    · next hu => cases hs; simp only [VR] at hx hy; obtain ⟨q, hq, rfl⟩ := hx; subst hy; exact ⟨_, bin_eql (eq_map_nil hu _) rfl rfl, by simp only [VR]⟩
    · cases hs
  · split at hs
    · next hu => cases hs; simp only [VR] at hx hy; obtain ⟨q, hq, rfl⟩ := hy; subst hx; exact ⟨_, bin_eql (eq_nil_map hu _) rfl rfl, by simp only [VR]⟩
    · cases hs
  · split at hs
    · next hu => cases hs; simp only [VR] at hx hy; obtain ⟨q, hq, rfl⟩ := hx; subst hy; exact ⟨_, bin_neq (eq_map_nil hu _) rfl rfl, by simp only [VR]; rfl⟩
    · cases hs
  · split at hs
    · next hu => cases hs; simp only [VR] at hx hy; obtain ⟨q, hq, rfl⟩ := hy; subst hx; exact ⟨_, bin_neq (eq_nil_map hu _) rfl rfl, by simp only [VR]; rfl⟩
    · cases hs
  · split at hs
    · next hk => subst hk; simp only [VR] at hx hy; obtain ⟨m, h1, h2, rfl⟩ := hx; subst hy; exact cmpZ_ok hs h1 h2 (Int.le_refl _) (Int.le_refl _)
    · cases hs
  · split at hs
    · next hk => subst hk; simp only [VR] at hx hy; obtain ⟨m, h1, h2, rfl⟩ := hy; subst hx; exact cmpZ_ok hs (Int.le_refl _) (Int.le_refl _) h1 h2
    · cases hs
  · split at hs
    · next u1 u2 h1 h2 =>
      simp only [Option.bind_eq_some_iff] at hs
      obtain ⟨z, hz, hv⟩ := hs
      rw [scalar_VR h1 hx, scalar_VR h2 hy]
      exact ⟨z, pureRun_run hz w, ofVal_VR _ _ _ hv⟩
    · cases hs

end
end Go.Abs
