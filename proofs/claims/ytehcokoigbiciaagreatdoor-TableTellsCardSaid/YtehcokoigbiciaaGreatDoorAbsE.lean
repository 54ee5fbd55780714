/- Values that are named by nodes: append, make, conversions, strings.Builder's string. -/
import Derived.Test.YtehcokoigbiciaaGreatDoorAbsD
import Derived.Test.YtehcokoigbiciaaGreatDoorAbsC

/-! # AbsSym5 -/
namespace Go.Abs
noncomputable section
variable [TabsOf]
set_option linter.unusedSectionVars false
set_option linter.unusedVariables false
set_option linter.unusedSimpArgs false
variable {P : Program} {η : Env} {σ σ' : ASt} {w : World}

theorem St.killR {η' : Env} {w' : World} (h : St P η σ w η' σ' w') (id : Nat) : St P η σ w η' (σ'.kill id) w' :=
  h.sub (fun k o hk => by rw [ASt.get_kill] at hk; split at hk; cases hk; exact hk) (Nat.le_refl _) rfl

/-- A new block of cells, told by a node. -/
theorem St.toVec {η' : Env} {τ : ASt} {w' : World} {m e size : Nat} {f : Bool} {xs : List GV} {c : List AV} {y : Value} (h : St P η σ w η' (τ.new (.cells c e true true)) w') (hv : TabsOf.val m = some (.l xs)) (hs : ∀ x ∈ xs, x.cells.length = size ∧ x.cells.all GV.scalar = true) (hn : sizeT P e = some size)
    (hc : ∀ vs, VRs η' c vs → VRs η' (cellsG xs) vs) (hy : VR η' (.sl τ.next 0 xs.length none) y) (hf : f = true → xs ≠ []) : St P η σ w η' (τ.new (.vec m e f)) w' ∧ VR η' (.sv τ.next m) y := by
  simp only [VR] at hy
  obtain ⟨q, hq, hle, rfl⟩ := hy
  have hg : (τ.new (.cells c e true true)).get τ.next = some (.cells c e true true) := by rw [ASt.get_new, if_pos rfl]
  have hor := h.rel.at hg hq
  have hes : q.es = size := by
    obtain ⟨_, _, _, _, r⟩ := hor
    have := (r.room rfl).2.2
    rw [hn] at this; cases this; rfl
  have hpos : f = true → q.es ≤ q.sz := fun e => by
    have hne := hf e
    have : 0 < xs.length := List.length_pos_iff.2 hne
    simp only [Option.getD_none, Nat.sub_zero] at hle
    have h1 : 1 ≤ q.sz / q.es := by omega
    exact Nat.le_trans (by simpa using Nat.mul_le_mul_right q.es h1) (Nat.div_mul_le_self q.sz q.es)
  have hnew : OR P η' q w' (.vec m e f) := OR.toVec hpos hv (fun x hx => by rw [hes]; exact (hs x hx).1) (fun x hx => (hs x hx).2) hor hc
  refine ⟨h.right ?_ rfl rfl ?_, by simp only [VR]; exact ⟨xs, hv, .inl ⟨q, hq, by simpa using hle, by simp⟩⟩⟩
  · refine (h.rel.swap (o' := .vec m e f) hg rfl (.inl ⟨q, hq, hnew⟩)).sub (fun k o hk => ?_) (Nat.le_refl _)
    rw [ASt.get_new] at hk
    rw [ASt.get_put, ASt.get_new]
    split at hk
    · next e1 => rw [if_pos e1]; exact hk
    · next e1 => rw [if_neg e1, if_neg e1]; exact hk
  · intro k o hk ho
    rw [ASt.get_new] at hk ⊢
    split at hk
    · next e1 => rw [if_pos e1]; exact ⟨_, rfl, rfl⟩
    · next e1 => rw [if_neg e1]; exact ⟨o, hk, ho⟩

theorem elemOk_all {xs : List GV} {size : Nat} (h : xs.all (GV.elemOk size) = true) : ∀ x ∈ xs, x.cells.length = size ∧ x.cells.all GV.scalar = true := by
  intro z hz
  have := List.all_eq_true.1 h z hz
  unfold GV.elemOk at this
  rw [Bool.and_eq_true] at this
  exact ⟨Nat.eq_of_beq_eq_true this.1, this.2⟩
theorem cellsG_one {xs : List GV} {size : Nat} (h : ∀ x ∈ xs, x.cells.length = size ∧ x.cells.all GV.scalar = true) : (cellsG xs).all AV.isAddrOrScalar = true := by
  unfold cellsG
  refine gvAVs_one ?_
  rw [List.all_eq_true]
  intro g hg
  obtain ⟨z, hz, hgz⟩ := List.mem_flatMap.1 hg
  exact List.all_eq_true.1 (h z hz).2 g hgz
theorem cellsG_append (xs ys : List GV) : cellsG (xs ++ ys) = cellsG xs ++ cellsG ys := by unfold cellsG; rw [List.flatMap_append, gvAVs_append]
theorem cellsG_length {xs : List GV} {size : Nat} (h : ∀ x ∈ xs, x.cells.length = size) : (cellsG xs).length = xs.length * size := by rw [cellsG, gvAVs_length, flat_len h]

/-- The node of an append's elements. -/
def srcNode (P : Program) (σ : ASt) (e size : Nat) (t1 : TypeId) (x : AV) : Option Nat :=
  match P.underlying t1 with
  | some .string => if size = 1 then match nodeOf x with
      | some n => findNd (.bytes n)
      | none => none
    else none
  | some (.slice _) => listOf P σ e x
  | _ => none

theorem srcNode_ok (h : SR P η σ w) {e size : Nat} {t1 : TypeId} {x : AV} {b : Nat} {u : Value} {xs : List GV} (hs : srcNode P σ e size t1 x = some b) (hx : VR η x u) (hn : sizeT P e = some size) (hv : TabsOf.val b = some (.l xs)) (hok : xs.all (GV.elemOk size) = true) :
    ∃ ys, Src P size t1 u xs.length ys w ∧ VRs η (cellsG xs) ys := by
  unfold srcNode at hs
  split at hs
  · next ht =>
    split at hs
    · next h1 =>
      subst h1
      split at hs
      · next n hn' =>
        obtain ⟨g, g1, g2, g3⟩ := nodeOf_ok hn' hx
        obtain ⟨g', k1, k2⟩ := findNd_ok hs
        rw [hv] at k1; cases k1
        simp only [Nd.den, g1] at k2
        split at k2
        · next s e1 =>
          cases e1; cases k2
          have hT : isSrcT P t1 = true := by unfold isSrcT; rw [ht]
          have := src_ok h hT (size := 1) (n := s.length) (l := byteAVs s) (a := .s s) (x := u) (by simp [srcCells]) ((GR_VR (.s s) u).1 g3) (by unfold byteAVs; simp [AV.isAddrOrScalar])
          rw [byteGs_cells]
          have hl : (byteGs s).length = s.length := by simp [byteGs]
          rw [hl]; exact this
        · cases k2
      · cases hs
    · cases hs
  · next ht => exact listOf_src h hs hx ht hn hv hok
  · cases hs

/-- A list that a whole block's cells tell. -/
theorem listOf_sl {e size id len : Nat} {cap : Option Nat} {a et : Nat} {c : List AV} {rw_ opn : Bool} (hg : σ.get id = some (.cells c et rw_ opn)) (hl : listOf P σ e (.sl id 0 len cap) = some a) (hn : sizeT P e = some size) (hlen : c.length = len * size) :
    ∃ ns, (∀ {η : Env} {vs : List Value}, VRs η c vs → ∃ gs, valsOf TabsOf.val ns = some gs ∧ gs.length = len ∧ VRs η (cellsG gs) vs ∧ ∀ x ∈ gs, x.cells.length = size ∧ x.cells.all GV.scalar = true) ∧ ∀ gs, valsOf TabsOf.val ns = some gs → TabsOf.val a = some (.l gs) := by
  simp only [listOf, hg, hn] at hl
  split at hl
  · next c' et' rw' opn' size' agg hg' hsz hag =>
    cases hg'; cases hsz
    split at hl
    · next hc =>
      rw [Bool.and_eq_true, Bool.or_eq_true, Bool.and_eq_true] at hc
      have hagg : agg = false → size = 1 := by
        intro e; subst e
        rcases hc.2 with h1 | h1
        · simp at h1
        · exact Nat.eq_of_beq_eq_true h1
      have htk : takeN c 0 (len * size) = some c := by
        unfold takeN; rw [List.drop_zero, List.take_of_length_le (by omega), if_pos hlen]
      rw [htk] at hl
      simp only at hl
      split at hl
      · next ns hns =>
        refine ⟨ns, fun {η vs} hv => ?_, fun gs hgs => ?_⟩
        · obtain ⟨gs, k1, k2, k3, _, k5⟩ := elemsOf_ok (η := η) hagg len hns hv hlen
          exact ⟨gs, k1, k2, k3, k5⟩
        · obtain ⟨g, g1, g2⟩ := findNd_ok hl
          simp only [Nd.den, hgs, Option.map_some, Option.some.injEq] at g2
          rw [g2]; exact g1
      · cases hl
    · cases hl
  · cases hl

set_option maxHeartbeats 1000000 in
theorem symAppend_ok (h : SR P η σ w) {ts : Array TypeId} {ty : TypeId} {s x v : AV} {u u' : Value} (hs : symAppend P ts s x σ = some (v, σ')) (hu : VR η s u) (hx : VR η x u') :
    ∃ y w' η', (Builtin.append_ ts ty #[u, u']).run P w = .ok y w' ∧ St P η σ w η' σ' w' ∧ VR η' v y := by
  unfold symAppend at hs
  split at hs
  · next t t1 hts =>
    have := arr2 hts; subst this
    split at hs
    · next e size bytes z hi =>
      obtain ⟨_, _, _, he, _, hn⟩ := elemInfo_some hi
      split at hs
      · cases hs
      · next h0 =>
        split at hs
        · cases hs
        · next b hb =>
          have hb' : srcNode P σ e size t1 x = some b := hb
          -- what the append's node tells
          have app : ∀ {a m : Nat} {xs : List GV}, findNd (.app size bytes a b) = some m → TabsOf.val a = some (.l xs) → ∃ ys, TabsOf.val b = some (.l ys) ∧ TabsOf.val m = some (.l (xs ++ ys)) ∧ ys.all (GV.elemOk size) = true ∧ 2 * (xs.length + ys.length) * bytes ≤ 2 ^ 48 ∧ xs.length + ys.length ≤ 2 ^ 48 := by
            intro a m xs hm ha
            obtain ⟨g, g1, g2⟩ := findNd_ok hm
            simp only [Nd.den, ha] at g2
            split at g2
            · next xs' ys e1 e2 =>
              cases e1
              split at g2
              · next hc => cases g2; exact ⟨ys, e2, g1, hc.1, hc.2.1, hc.2.2⟩
              · cases g2
            · cases g2
          have appTo : ∀ {ys : List GV} {S : AV} {n : Nat}, ys.all (GV.elemOk size) = true → sliceLen S = n → 2 * (n + ys.length) * bytes ≤ 2 ^ 48 → n + ys.length ≤ 2 ^ 48 → ¬ (size = 0 ∨ (cellsG ys).all AV.isAddrOrScalar = false ∨ ¬ (2 * (sliceLen S + ys.length) * bytes ≤ 2 ^ 48 ∧ sliceLen S + ys.length ≤ 2 ^ 48)) := by
            intro ys S n h1 h2 h3 h4
            rw [cellsG_one (elemOk_all h1), h2]
            simp [h0]; omega
          have ml0 : ∀ {a : Nat}, findNd (.ml []) = some a → TabsOf.val a = some (.l []) := by
            intro a ha
            obtain ⟨g, g1, g2⟩ := findNd_ok ha
            simp only [Nd.den, valsOf, Option.map_some, Option.some.injEq] at g2
            subst g2; exact g1
          -- onto nil
          have onNil : ∀ {a m : Nat} {τ : ASt}, TabsOf.val a = some (.l []) → findNd (.app size bytes a b) = some m → u = .slice none 0 0 → τ.lock = σ.lock → τ.next = σ.next → (∀ k o, τ.get k = some o → σ.get k = some o) →
              ∀ f : Bool, ∃ y w' η', (Builtin.append_ #[t, t1] ty #[u, u']).run P w = .ok y w' ∧ St P η σ w η' (τ.new (.vec m e f)) w' ∧ VR η' (.sv σ.next m) y := by
            intro a m τ ha hm hu0 hl hnx hsub f
            obtain ⟨ys, y1, y2, y3, y4, y5⟩ := app hm ha
            obtain ⟨zs, z1, z2⟩ := srcNode_ok h hb' hx hn y1 y3
            have hlen := cellsG_length (fun x hx => (elemOk_all y3 x hx).1)
            simp only [List.nil_append, List.length_nil, Nat.zero_add] at y2 y4 y5
            have hc := appTo (S := .nils) (n := 0) y3 rfl (by simpa using y4) (by simpa using y5)
            by_cases hz : ys.length = 0
            · have hys : ys = [] := List.eq_nil_of_length_eq_zero hz
              subst hys
              have hto : aAppTo e size bytes .nils 0 (cellsG []) σ = some (.nils, σ) := by unfold aAppTo; rw [if_neg (by simpa using hc)]; rfl
              obtain ⟨y, w', η', r1, r2, r3⟩ := appTo_ok (ty := ty) h hi z1 z2 hlen hto (u := u) (by simp only [VR]; exact hu0)
              refine ⟨y, w', η'.ghost σ.next, r1, r2.trans ?_, ?_⟩
              · exact St.ghost r2.rel y2 hl hnx hsub
              · simp only [VR] at r3 ⊢
                exact ⟨[], y2, .inr ⟨by simp [Env.ghost], rfl, r3⟩⟩
            · have hto : aAppTo e size bytes .nils ys.length (cellsG ys) σ = some (.sl σ.next 0 ys.length none, σ.new (.cells (cellsG ys) e true true)) := by
                unfold aAppTo; rw [if_neg hc]; simp only; rw [if_neg hz]
              obtain ⟨y, w', η', r1, r2, r3⟩ := appTo_ok (ty := ty) h hi z1 z2 hlen hto (u := u) (by simp only [VR]; exact hu0)
              obtain ⟨q1, q2⟩ := St.toVec (f := f) r2 y2 (elemOk_all y3) hn (fun _ h => h) r3 (fun _ e => hz (by rw [e]; rfl))
              refine ⟨y, w', η', r1, q1.sub (fun k o hk => ?_) (by show σ.next + 1 ≤ τ.next + 1; omega) hl, q2⟩
              rw [ASt.get_new] at hk ⊢
              rw [hnx] at hk
              split at hk
              · next e1 => rw [if_pos e1]; exact hk
              · next e1 => rw [if_neg e1]; exact hsub k o hk
          split at hs
          · split at hs
            · next a ha =>
              obtain ⟨m, hm, e1⟩ := Option.map_eq_some_iff.1 hs
              cases e1
              simp only [VR] at hu
              exact onNil (τ := σ) (ml0 ha) hm hu rfl rfl (fun _ _ h => h) true
            · cases hs
          · next id n =>
            split at hs
            · next a et f hg =>
              split at hs
              · next hcnd =>
                rw [Bool.and_eq_true, Bool.and_eq_true] at hcnd
                obtain ⟨⟨het, hsl⟩, hlk⟩ := hcnd
                have het' := Nat.eq_of_beq_eq_true het
                subst het'
                have hlk' := Nat.le_of_ble_eq_true hlk
                obtain ⟨m, hm, e1⟩ := Option.map_eq_some_iff.1 hs
                cases e1
                simp only [VR] at hu
                obtain ⟨xn, n1, hu⟩ := hu
                rcases h.live id _ hg with ⟨q, hq, hor⟩ | ⟨hgh, m0, et0, f0, e0, hv0⟩
                · obtain ⟨xs, x1, x2, x3, x4, x5, x6, x7, hS⟩ := unvec_ok h hg hq
                  have hlen0 := sameLen_ok 100 hsl x1 n1
                  rw [hn] at x5; cases x5
                  rcases hu with ⟨q', hq', hle, rfl⟩ | ⟨hgh, _, _⟩
                  · rw [hq] at hq'; cases hq'
                    obtain ⟨ys, y1, y2, y3, y4, y5⟩ := app hm x1
                    have hcl := cellsG_length x2
                    have hall : ∀ x ∈ xs ++ ys, x.cells.length = q.es ∧ x.cells.all GV.scalar = true := by
                      intro x hx
                      rcases List.mem_append.1 hx with hx | hx
                      · exact ⟨x2 x hx, x7 x hx⟩
                      · exact elemOk_all y3 x hx
                    obtain ⟨zs, z1, z2⟩ := srcNode_ok h hb' hx hn y1 y3
                    have hlen := cellsG_length (fun x hx => (elemOk_all y3 x hx).1)
                    have hc := appTo (S := .sl id 0 xs.length none) (n := xs.length) y3 rfl y4 y5
                    rw [← hlen0] at hle ⊢
                    have hus : VR η (.sl id 0 xs.length none) (.slice (some ⟨q.bl, q.ba, none⟩) xs.length (q.sz / q.es)) := by simp only [VR]; exact ⟨q, hq, by simpa using hle, by simp⟩
                    by_cases hz : ys.length = 0
                    · have hys : ys = [] := List.eq_nil_of_length_eq_zero hz
                      subst hys
                      rw [List.append_nil] at y2
                      have hto : aAppTo et q.es bytes (.sl id 0 xs.length none) 0 (cellsG []) (unvec σ id xs et) = some (.sl id 0 xs.length none, unvec σ id xs et) := by unfold aAppTo; rw [if_neg (by simpa using hc)]; rfl
                      obtain ⟨y, w', η', r1, r2, r3⟩ := appTo_ok (ty := ty) hS hi z1 z2 hlen hto hus
                      have r2' := unvec_left hg r2
                      have hgu : (unvec σ id xs et).get id = some (.cells (cellsG xs) et true true) := unvec_get
                      have hq2 := r2.ext.pl _ _ hq
                      have hor2 := r2.rel.at hgu hq2
                      have hv2 : OR P (η'.put σ.next q) q w' (.vec m et f) := by
                        have hle2 := Env.put_le r2.rel q
                        refine OR.toVec (fun e => by subst e; exact hor.vecPos) y2 x2 x7 (hor2.mono hle2) (fun _ h => h)
                      have hagain := St.again (q' := q) r2.rel hgu rfl (show (unvec σ id xs et).lock ≤ id from hlk') hq2 rfl rfl (fun _ _ => rfl) rfl rfl rfl hv2
                      refine ⟨y, w', η'.put σ.next q, r1, (r2'.trans hagain).sub (fun k o hk => ?_) (Nat.le_refl _) rfl, ?_⟩
                      · rw [ASt.get_new, ASt.get_kill] at hk ⊢
                        split at hk
                        · next e1 => rw [if_pos (show k = ((unvec σ id xs et).kill id).next from e1)]; exact hk
                        · next e1 =>
                          rw [if_neg (show ¬ k = ((unvec σ id xs et).kill id).next from e1)]
                          split at hk
                          · cases hk
                          · next e2 => rw [if_neg e2]; unfold unvec; rw [ASt.get_put, if_neg e2]; exact hk
                      · simp only [VR] at r3 ⊢
                        obtain ⟨q3, hq3, hle3, rfl⟩ := r3
                        rw [hq2] at hq3; cases hq3
                        exact ⟨xs, y2, .inl ⟨q, by simp [Env.put], by simpa using hle3, by simp⟩⟩
                    · have htk : takeN (cellsG xs) 0 (xs.length * q.es) = some (cellsG xs) := by
                        unfold takeN; rw [List.drop_zero, List.take_of_length_le (by omega), if_pos hcl]
                      have hto : aAppTo et q.es bytes (.sl id 0 xs.length none) ys.length (cellsG ys) (unvec σ id xs et) = some (.sl σ.next 0 (xs.length + ys.length) none, ((unvec σ id xs et).kill id).new (.cells (cellsG xs ++ cellsG ys) et true true)) := by
                        unfold aAppTo; rw [if_neg hc]; simp only; rw [if_neg hz, if_pos (show (unvec σ id xs et).lock ≤ id from hlk'), unvec_get]
                        simp only [if_true, htk, Option.map_some]
                        rfl
                      obtain ⟨y, w', η', r1, r2, r3⟩ := appTo_ok (ty := ty) hS hi z1 z2 hlen hto hus
                      obtain ⟨q1, q2⟩ := St.toVec (size := q.es) (unvec_left hg r2) y2 hall hn (fun vs hvs => by rw [cellsG_append]; exact hvs) (by rw [List.length_append]; exact r3) (f := f) (fun _ e => hz (by have := congrArg List.length e; simp at this; rw [this.2]; rfl))
                      refine ⟨y, w', η', r1, q1.sub (fun k o hk => ?_) (Nat.le_refl _) rfl, q2⟩
                      rw [ASt.get_new, ASt.get_kill] at hk ⊢
                      split at hk
                      · next e1 => rw [if_pos (show k = ((unvec σ id xs et).kill id).next from e1)]; exact hk
                      · next e1 =>
                        rw [if_neg (show ¬ k = ((unvec σ id xs et).kill id).next from e1)]
                        split at hk
                        · cases hk
                        · next e2 => rw [if_neg e2]; unfold unvec; rw [ASt.get_put, if_neg e2]; exact hk
                  · rw [(h.ghd id hgh).1] at hq; cases hq
                · cases e0
                  have hlen0 := sameLen_ok 100 hsl hv0 n1
                  rcases hu with ⟨q', hq', _⟩ | ⟨_, _, hu⟩
                  · rw [(h.ghd id hgh).1] at hq'; cases hq'
                  · exact onNil (τ := σ.kill id) hv0 hm hu rfl rfl (fun k o hk => by rw [ASt.get_kill] at hk; split at hk; cases hk; exact hk) f
              · cases hs
            · cases hs
          · next id =>
            split at hs
            · next et hg =>
              split at hs
              · next hcnd =>
                rw [Bool.and_eq_true] at hcnd
                obtain ⟨het, hlk⟩ := hcnd
                have het' := Nat.eq_of_beq_eq_true het
                subst het'
                have hlk' := Nat.le_of_ble_eq_true hlk
                split at hs
                · next a ha =>
                  obtain ⟨m, hm, e1⟩ := Option.map_eq_some_iff.1 hs
                  cases e1
                  obtain ⟨ys, y1, y2, y3, y4, y5⟩ := app hm (ml0 ha)
                  simp only [List.nil_append, List.length_nil, Nat.zero_add] at y2 y4 y5
                  obtain ⟨zs, z1, z2⟩ := srcNode_ok h hb' hx hn y1 y3
                  have hlen := cellsG_length (fun x hx => (elemOk_all y3 x hx).1)
                  have hc := appTo (S := .sl id 0 0 (some 0)) (n := 0) y3 rfl (by simpa using y4) (by simpa using y5)
                  have hu0 := hu
                  simp only [VR] at hu0
                  obtain ⟨q, hq, _, rfl⟩ := hu0
                  obtain ⟨cs, elem, fr, hb0, rr⟩ := h.at hg hq
                  have hsh := rr.shut rfl
                  obtain ⟨w1, w2, w3⟩ := rr.whole he
                  have hba := w3 rfl
                  by_cases hz : ys.length = 0
                  · have hys : ys = [] := List.eq_nil_of_length_eq_zero hz
                    subst hys
                    have hto : aAppTo et size bytes (.sl id 0 0 (some 0)) 0 (cellsG []) σ = some (.sl id 0 0 (some 0), σ) := by unfold aAppTo; rw [if_neg (by simpa using hc)]; rfl
                    obtain ⟨y, w', η', r1, r2, r3⟩ := appTo_ok (ty := ty) h hi z1 z2 hlen hto hu
                    have hq2 := r2.ext.pl _ _ hq
                    obtain ⟨cs2, elem2, fr2, hb2, rr2⟩ := r2.rel.at hg hq2
                    obtain ⟨v1, v2, v3⟩ := rr2.whole he
                    have hsz0 := rr2.shut rfl
                    simp only [List.length_nil] at hsz0
                    have hv2 : OR P (η'.put σ.next ⟨q.bl, q.ba, 0, size⟩) ⟨q.bl, q.ba, 0, size⟩ w' (.vec m et false) := by
                      refine ⟨[], cs2, elem2, fr2, [], y2, hb2, by simp [GRs], by simp, by simp [cellsAt, cellsL], by simp, { fits := by have := rr2.fits; simp; omega, le := by simp, shut := by simp, cell := by simp, free := by simp, whole := fun _ => ⟨v1, by simp; omega, by simp⟩, room := fun _ => ⟨he, by simp; omega, hn⟩ }, by simp, by simp⟩
                    have hagain := St.again (q' := ⟨q.bl, q.ba, 0, size⟩) r2.rel hg rfl hlk' hq2 rfl rfl (fun _ _ => rfl) rfl rfl rfl hv2
                    refine ⟨y, w', _, r1, r2.trans hagain, ?_⟩
                    simp only [VR] at r3 ⊢
                    obtain ⟨q3, hq3, _, rfl⟩ := r3
                    rw [hq2] at hq3; cases hq3
                    exact ⟨[], y2, .inl ⟨⟨q.bl, q.ba, 0, size⟩, by simp [Env.put], by simp, by simp⟩⟩
                  · have hto : aAppTo et size bytes (.sl id 0 0 (some 0)) ys.length (cellsG ys) σ = some (.sl σ.next 0 (0 + ys.length) none, σ.new (.cells ([] ++ cellsG ys) et true true)) := by
                      unfold aAppTo; rw [if_neg hc]; simp only; rw [if_neg (by omega), hg]
                      simp [takeN]
                    obtain ⟨y, w', η', r1, r2, r3⟩ := appTo_ok (ty := ty) h hi z1 z2 hlen hto hu
                    rw [List.nil_append] at r2
                    rw [Nat.zero_add] at r3
                    obtain ⟨q1, q2⟩ := St.toVec (f := false) r2 y2 (elemOk_all y3) hn (fun _ h => h) r3 (by simp)
                    refine ⟨y, w', η', r1, q1.sub (fun k o hk => ?_) (Nat.le_refl _) rfl, q2⟩
                    rw [ASt.get_new, ASt.get_kill] at hk
                    rw [ASt.get_new]
                    split at hk
                    · next e1 => rw [if_pos (show k = σ.next from e1)]; exact hk
                    · next e1 =>
                      rw [if_neg (show ¬ k = σ.next from e1)]
                      split at hk
                      · cases hk
                      · exact hk
                · cases hs
              · cases hs
            · cases hs
          · next id len =>
            split at hs
            · next c et hg =>
              split at hs
              · next hcnd =>
                rw [Bool.and_eq_true, Bool.and_eq_true] at hcnd
                obtain ⟨⟨het, hlk⟩, hcl⟩ := hcnd
                have het' := Nat.eq_of_beq_eq_true het
                subst het'
                have hlk' := Nat.le_of_ble_eq_true hlk
                have hcl' := Nat.eq_of_beq_eq_true hcl
                split at hs
                · next a ha =>
                  obtain ⟨m, hm, e1⟩ := Option.map_eq_some_iff.1 hs
                  cases e1
                  obtain ⟨ns, l1, l2⟩ := listOf_sl hg ha hn hcl'
                  have hu0 := hu
                  simp only [VR] at hu0
                  obtain ⟨q, hq, hle, rfl⟩ := hu0
                  obtain ⟨ws, elem, fr, hb0, rr⟩ := h.at hg hq
                  have hes : q.es = size := by
                    have := (rr.room rfl).2.2
                    rw [hn] at this; cases this; rfl
                  have htk : takeN c 0 (len * size) = some c := by
                    unfold takeN; rw [List.drop_zero, List.take_of_length_le (by omega), if_pos hcl']
                  obtain ⟨xs, k1, k2, k3, k4⟩ := l1 (rr.takeVRs htk)
                  have hva := l2 xs k1
                  have conv : ∀ {η' : Env} (vs : List Value), VRs η' c vs → VRs η' (cellsG xs) vs := by
                    intro η' vs hv
                    obtain ⟨gs, j1, _, j3, _⟩ := l1 hv
                    rw [k1] at j1; cases j1; exact j3
                  obtain ⟨ys, y1, y2, y3, y4, y5⟩ := app hm hva
                  have hall : ∀ x ∈ xs ++ ys, x.cells.length = size ∧ x.cells.all GV.scalar = true := by
                    intro x hx
                    rcases List.mem_append.1 hx with hx | hx
                    · exact k4 x hx
                    · exact elemOk_all y3 x hx
                  obtain ⟨zs, z1, z2⟩ := srcNode_ok h hb' hx hn y1 y3
                  have hlen := cellsG_length (fun x hx => (elemOk_all y3 x hx).1)
                  have hc := appTo (S := .sl id 0 len none) (n := xs.length) y3 k2.symm y4 y5
                  by_cases hz : ys.length = 0
                  · have hys : ys = [] := List.eq_nil_of_length_eq_zero hz
                    subst hys
                    rw [List.append_nil] at y2
                    have hto : aAppTo et size bytes (.sl id 0 len none) 0 (cellsG []) σ = some (.sl id 0 len none, σ) := by unfold aAppTo; rw [if_neg (by simpa using hc)]; rfl
                    obtain ⟨y, w', η', r1, r2, r3⟩ := appTo_ok (ty := ty) h hi z1 z2 hlen hto hu
                    have hq2 := r2.ext.pl _ _ hq
                    have hor2 := r2.rel.at hg hq2
                    have hv2 : OR P (η'.put σ.next q) q w' (.vec m et false) := by
                      have hle2 := Env.put_le r2.rel q
                      refine OR.toVec (by simp) y2 (fun x hx => by rw [hes]; exact (k4 x hx).1) (fun x hx => (k4 x hx).2) (hor2.mono hle2) (fun vs hvs => conv vs hvs)
                    have hagain := St.again (q' := q) r2.rel hg rfl hlk' hq2 rfl rfl (fun _ _ => rfl) rfl rfl rfl hv2
                    refine ⟨y, w', η'.put σ.next q, r1, r2.trans hagain, ?_⟩
                    simp only [VR] at r3 ⊢
                    obtain ⟨q3, hq3, hle3, rfl⟩ := r3
                    rw [hq2] at hq3; cases hq3
                    exact ⟨xs, y2, .inl ⟨q, by simp [Env.put], by rw [k2]; simpa using hle3, by simp [k2]⟩⟩
                  · have hto : aAppTo et size bytes (.sl id 0 len none) ys.length (cellsG ys) σ = some (.sl σ.next 0 (len + ys.length) none, (σ.kill id).new (.cells (c ++ cellsG ys) et true true)) := by
                      unfold aAppTo; rw [if_neg hc]; simp only; rw [if_neg hz, if_pos hlk', hg]
                      simp only [if_true, htk, Option.map_some]
                    obtain ⟨y, w', η', r1, r2, r3⟩ := appTo_ok (ty := ty) h hi z1 z2 hlen hto hu
                    obtain ⟨q1, q2⟩ := St.toVec (size := size) r2 y2 hall hn (fun vs hvs => by
                      obtain ⟨us, ts, rfl, v1, v2⟩ := VRs.split hvs
                      rw [cellsG_append]
                      exact VRs.append (conv us v1) v2) (by rw [List.length_append, k2]; exact r3) (f := false) (by simp)
                    exact ⟨y, w', η', r1, q1, q2⟩
                · cases hs
              · cases hs
            · cases hs
          · cases hs
    · cases hs
  · cases hs
end
end Go.Abs

/-! # AbsSym6 -/
namespace Go.Abs
noncomputable section
variable [TabsOf]
set_option linter.unusedSectionVars false
set_option linter.unusedVariables false
set_option linter.unusedSimpArgs false
variable {P : Program} {η : Env} {σ σ' : ASt} {w : World}

theorem repl_VRs {x : GV} {z : List AV} (hx : ∀ us, VRs η z us → VRs η (gvAVs x.cells) us) : ∀ (n : Nat) (vs : List Value), VRs η (repl n z) vs → VRs η (cellsG (List.replicate n x)) vs
  | 0, vs, h => by simpa [repl, cellsG, gvAVs] using h
  | n + 1, vs, h => by
    have e : repl (n + 1) z = z ++ repl n z := by simp [repl, List.replicate_succ]
    rw [e] at h
    obtain ⟨us, ws, rfl, h1, h2⟩ := VRs.split h
    have e2 : cellsG (List.replicate (n + 1) x) = gvAVs x.cells ++ cellsG (List.replicate n x) := by unfold cellsG; rw [List.replicate_succ, List.flatMap_cons, gvAVs_append]
    rw [e2]
    exact (hx us h1).append (repl_VRs hx n ws h2)

theorem repl_take (z : List AV) (n m : Nat) (h : n ≤ m) : (repl m z).take (n * z.length) = repl n z := by
  induction n generalizing m with
  | zero => simp [repl]
  | succ n ih =>
    cases m with
    | zero => omega
    | succ m =>
      have e : ∀ k, repl (k + 1) z = z ++ repl k z := fun k => by simp [repl, List.replicate_succ]
      rw [e, e, ← ih m (by omega), List.take_append, List.take_of_length_le (by rw [Nat.add_mul]; omega)]
      congr 2; rw [Nat.add_mul]; omega

theorem symMakeSlice_ok (h : SR P η σ w) {t : TypeId} {l c v : AV} {x y : Value} (hs : symMakeSlice P t l c σ = some (v, σ')) (hx : VR η l x) (hy : VR η c y) :
    ∃ z w' η', (Instr.makeSlice t x y).run P w = .ok z w' ∧ St P η σ w η' σ' w' ∧ VR η' v z := by
  unfold symMakeSlice at hs
  split at hs
  · next e0 hu0 =>
    split at hs
    · next e size bytes z agg hi hagg =>
      obtain ⟨hut, _, _, he, hzl, hn⟩ := elemInfo_some hi
      rw [hu0] at hut; cases hut
      split at hs
      · cases hs
      · next h0 =>
        split at hs
        · next zn ln cn hzn hln hcn =>
          obtain ⟨m, hm, e1⟩ := Option.map_eq_some_iff.1 hs
          cases e1
          obtain ⟨gl, l1, l2, l3⟩ := nodeOf_ok hln hx
          obtain ⟨gc, c1, c2, c3⟩ := nodeOf_ok hcn hy
          obtain ⟨g, g1, g2⟩ := findNd_ok hm
          simp only [Nd.den, l1, c1] at g2
          split at g2
          · next xz kn n kn' m' e1 e2 e3 =>
            cases e2; cases e3
            split at g2
            · next hc =>
              cases g2
              obtain ⟨b1, b2, b3, b4, b5⟩ := hc
              simp only [GR] at l3 c3
              subst l3; subst c3
              obtain ⟨xs, hrun, hsz, hvs⟩ := makeSlice_raw (P := P) (w := w) (η := η) (kd := kn) (kd' := kn') hi h0 b1 b2 b3 b4
              -- the zero element
              have hzero : ∀ us, VRs η z us → VRs η (gvAVs xz.cells) us := by
                intro us hus
                cases agg with
                | true =>
                  simp only [if_true] at hzn
                  obtain ⟨l', gs, e4, _, e5, _, e6⟩ := aggNode_ok hzn (by simp only [VR]; exact ⟨us, rfl, hus⟩ : VR η (.agg z) (.agg ⟨us⟩))
                  rw [e1] at e5; cases e5
                  simp only [GR] at e6
                  obtain ⟨us', e7, e8⟩ := e6
                  cases e7
                  exact (GRs_VRs _ _).1 e8
                | false =>
                  simp only [Bool.false_eq_true, if_false] at hzn
                  cases hz' : z with
                  | nil => rw [hz'] at hzn; simp at hzn
                  | cons a zr =>
                    rw [hz'] at hzn hus hzl
                    simp only [List.head?_cons, Option.bind_some] at hzn
                    simp only [VRs] at hus
                    obtain ⟨u, ur, rfl, hu1, hu2⟩ := hus
                    obtain ⟨gz, k1, k2, k3⟩ := nodeOf_ok hzn hu1
                    rw [e1] at k1; cases k1
                    rw [GV.scalar_cells k2]
                    have : size = 1 := by
                      unfold GV.elemOk at b5
                      rw [Bool.and_eq_true, GV.scalar_cells k2] at b5
                      exact (Nat.eq_of_beq_eq_true b5.1).symm
                    rw [this] at hzl
                    have hzr : zr = [] := by apply List.eq_nil_of_length_eq_zero; simpa using hzl
                    subst hzr
                    simp only [VRs] at hu2
                    subst hu2
                    simp only [gvAVs]
                    exact VRs.cons ((GR_VR _ _).1 k3) (by simp [VRs])
              have hall : ∀ x ∈ List.replicate n.toNat xz, x.cells.length = size ∧ x.cells.all GV.scalar = true := by
                intro x hx
                rw [(List.mem_replicate.1 hx).2]
                unfold GV.elemOk at b5
                rw [Bool.and_eq_true] at b5
                exact ⟨Nat.eq_of_beq_eq_true b5.1, b5.2⟩
              have hlm : n.toNat ≤ m'.toNat := by omega
              have hpre : VRs η (repl n.toNat z) (xs.toList.take (repl n.toNat z).length) := by
                rw [repl_length, hzl]
                have := hvs.take (n.toNat * size)
                rw [← hzl, repl_take z _ _ hlm, hzl] at this
                exact this
              have hal := cells_new h (c := repl n.toNat z) (xs := xs) (elem := _) (es := size) (opn := true) hpre (by rw [repl_length, hzl, hsz]; exact Nat.mul_le_mul_right _ hlm) (by simp) (fun _ => ⟨he, Nat.pos_of_ne_zero h0, hn⟩)
              have hcap : (m'.toNat * size) / size = m'.toNat := Nat.mul_div_cancel _ (Nat.pos_of_ne_zero h0)
              obtain ⟨q1, q2⟩ := St.toVec (f := false) (size := size) (y := .slice (some ⟨w.heap.size, 0, none⟩) n.toNat m'.toNat) hal g1 hall hn (fun vs hvs => by
                have hz2 : ∀ us, VRs (η.put σ.next ⟨w.heap.size, 0, xs.size, size⟩) z us → VRs (η.put σ.next ⟨w.heap.size, 0, xs.size, size⟩) (gvAVs xz.cells) us := by
                  intro us hus
                  cases agg with
                  | true =>
                    simp only [if_true] at hzn
                    obtain ⟨l', gs, e4, _, e5, _, e6⟩ := aggNode_ok hzn (by simp only [VR]; exact ⟨us, rfl, hus⟩ : VR (η.put σ.next ⟨w.heap.size, 0, xs.size, size⟩) (.agg z) (.agg ⟨us⟩))
                    rw [e1] at e5; cases e5
                    simp only [GR] at e6
                    obtain ⟨us', e7, e8⟩ := e6
                    cases e7
                    exact (GRs_VRs _ _).1 e8
                  | false =>
                    simp only [Bool.false_eq_true, if_false] at hzn
                    cases hz' : z with
                    | nil => rw [hz'] at hzn; simp at hzn
                    | cons a zr =>
                      rw [hz'] at hzn hus hzl
                      simp only [List.head?_cons, Option.bind_some] at hzn
                      simp only [VRs] at hus
                      obtain ⟨u, ur, rfl, hu1, hu2⟩ := hus
                      obtain ⟨gz, k1, k2, k3⟩ := nodeOf_ok hzn hu1
                      rw [e1] at k1; cases k1
                      rw [GV.scalar_cells k2]
                      have : size = 1 := by
                        unfold GV.elemOk at b5
                        rw [Bool.and_eq_true, GV.scalar_cells k2] at b5
                        exact (Nat.eq_of_beq_eq_true b5.1).symm
                      rw [this] at hzl
                      have hzr : zr = [] := by apply List.eq_nil_of_length_eq_zero; simpa using hzl
                      subst hzr
                      simp only [VRs] at hu2
                      subst hu2
                      simp only [gvAVs]
                      exact VRs.cons ((GR_VR _ _).1 k3) (by simp [VRs])
                exact repl_VRs hz2 _ _ hvs) (by
                  simp only [VR]
                  exact ⟨⟨w.heap.size, 0, xs.size, size⟩, by simp [Env.put], by simp [hsz, hcap, hlm], by simp [hsz, hcap]⟩) (by simp)
              exact ⟨_, _, _, hrun, q1, q2⟩
            · cases g2
          · cases g2
        · cases hs
    · cases hs
  · cases hs

theorem bytesG_of : ∀ {xs : List GV} {b : List UInt8}, bytesG xs = some b → bytesOf (gvAVs xs) = some b
  | [], b, h => by simpa [bytesG, gvAVs, bytesOf] using h
  | x :: xs, b, h => by
    unfold bytesG at h
    split at h
    · rename_i heq; cases heq
    · next n rest heq =>
      cases heq
      simp only [gvAVs, gvAV, bytesOf]
      split at h
      · next hc =>
        rw [if_pos hc]
        obtain ⟨b', hb', rfl⟩ := Option.map_eq_some_iff.1 h
        rw [bytesG_of hb']; rfl
      · cases h
    · cases h
theorem bytesG_cells : ∀ {xs : List GV} {b : List UInt8}, bytesG xs = some b → xs.flatMap GV.cells = xs
  | [], b, h => rfl
  | x :: xs, b, h => by
    unfold bytesG at h
    split at h
    · rename_i heq; cases heq
    · next n rest heq =>
      cases heq
      split at h
      · obtain ⟨b', hb', _⟩ := Option.map_eq_some_iff.1 h
        rw [List.flatMap_cons, bytesG_cells hb']; rfl
      · cases h
    · cases h

theorem symConvert_ok (h : SR P η σ w) {src dst : TypeId} {a v : AV} {x : Value} (hs : symConvert P src dst a σ = some (v, σ')) (hx : VR η a x) :
    ∃ y w' η', (convert src dst x).run P w = .ok y w' ∧ St P η σ w η' σ' w' ∧ VR η' v y := by
  unfold symConvert at hs
  split at hs
  · next d k n h1 h2 =>
    obtain ⟨v', hm, e1⟩ := Option.map_eq_some_iff.1 hs
    cases e1
    simp only [VR] at hx
    obtain ⟨g, a1, a2, a3⟩ := hx
    obtain ⟨_, g', _, b2, b3⟩ := mkN_ok (η := η) hm
    simp only [Nd.den, a1] at b2
    split at b2
    · next kk z e1 =>
      cases e1; cases b2
      simp only [GR] at a3; subst a3
      obtain ⟨y, w', η', r1, r2, r3⟩ := convert_ok h (src := src) (dst := dst) (a := .i kk z) (v := .i k (k.wrap z)) (σ' := σ) (by simp only [aConvert, h1, h2]) (by simp only [VR] : VR η (.i kk z) (.int kk z))
      exact ⟨y, w', η', r1, r2, by obtain ⟨_, g2, _, c2, c3⟩ := mkN_ok (η := η') hm; simp only [Nd.den, a1, Option.some.injEq] at c2; subst c2; exact c3 y rfl ((GR_VR _ _).2 r3)⟩
    · cases b2
  · next n h1 h2 =>
    obtain ⟨v', hm, e1⟩ := Option.map_eq_some_iff.1 hs
    cases e1
    simp only [VR] at hx
    obtain ⟨g, a1, a2, a3⟩ := hx
    obtain ⟨_, g', _, b2, b3⟩ := mkN_ok (η := η) hm
    simp only [Nd.den, a1] at b2
    split at b2
    · next z e1 =>
      cases e1; cases b2
      simp only [GR] at a3; subst a3
      obtain ⟨y, w', η', r1, r2, r3⟩ := convert_ok h (src := src) (dst := dst) (a := .s z) (v := .s z) (σ' := σ) (by simp only [aConvert, h1, h2]) (by simp only [VR] : VR η (.s z) (.string ⟨⟨z⟩⟩))
      exact ⟨y, w', η', r1, r2, by obtain ⟨_, g2, _, c2, c3⟩ := mkN_ok (η := η') hm; simp only [Nd.den, a1, Option.some.injEq] at c2; subst c2; exact c3 y rfl ((GR_VR _ _).2 r3)⟩
    · cases b2
  · next e n h1 h2 =>
    split at hs
    · next h3 =>
      split at hs
      · next hc =>
        split at hs
        · next m hm =>
          cases hs
          simp only [VR] at hx
          obtain ⟨g, a1, a2, a3⟩ := hx
          obtain ⟨g', b1, b2⟩ := findNd_ok hm
          simp only [Nd.den, a1] at b2
          split at b2
          · next z e1 =>
            cases e1; cases b2
            simp only [GR] at a3; subst a3
            obtain ⟨y, w', η', r1, r2, r3⟩ := convert_ok h (src := src) (dst := dst) (a := .s z) (v := .sl σ.next 0 z.length none) (σ' := σ.new (.cells (byteAVs z) e true true)) (by simp only [aConvert, h1, h2, h3, if_pos hc]) (by simp only [VR] : VR η (.s z) (.string ⟨⟨z⟩⟩))
            obtain ⟨q1, q2⟩ := St.toVec (f := false) (size := 1) r2 b1 (by
              intro x hx
              obtain ⟨c, _, rfl⟩ := List.mem_map.1 hx
              exact ⟨rfl, rfl⟩) hc.2 (fun vs hvs => by rw [byteGs_cells]; exact hvs) (by simpa [byteGs] using r3) (by simp)
            exact ⟨y, w', η', r1, q1, q2⟩
          · cases b2
        · cases hs
      · cases hs
    · cases hs
  · next e h1 h2 =>
    split at hs
    · next h3 =>
      split at hs
      · next m hl =>
        obtain ⟨v', hm, e1⟩ := Option.map_eq_some_iff.1 hs
        cases e1
        obtain ⟨_, g', _, b2, b3⟩ := mkN_ok (η := η) hm
        simp only [Nd.den] at b2
        split at b2
        · next xs hv =>
          split at b2
          · next h48 =>
           obtain ⟨b, hb, rfl⟩ := Option.map_eq_some_iff.1 b2
           -- a slice of bytes whose elements these are
           have fin : ∀ {τ : ASt} {A : AV}, SR P η τ w → VR η A x → aConvert P src dst A τ = some (.s b, τ) → (∀ {η' : Env} {w' : World}, St P η τ w η' τ w' → St P η σ w η' σ w') → ∃ y w' η', (convert src dst x).run P w = .ok y w' ∧ St P η σ w η' σ w' ∧ VR η' v y := by
             intro τ A hS hA hA2 hst
             obtain ⟨y, w', η', r1, r2, r3⟩ := convert_ok hS hA2 hA
             refine ⟨y, w', η', r1, hst r2, ?_⟩
             obtain ⟨_, g2, _, c2, c3⟩ := mkN_ok (η := η') hm
             simp only [Nd.den, hv, if_pos h48, hb, Option.map_some, Option.some.injEq] at c2
             subst c2; exact c3 y rfl ((GR_VR _ _).2 r3)
           have hnil : bytesG xs = some b → xs = [] → b = [] := by rintro h1 rfl; simpa [bytesG] using h1.symm
           unfold listOf at hl
           split at hl
           · next n =>
             cases hl
             simp only [VR] at hx
             obtain ⟨g, a1, a2, a3⟩ := hx
             rw [hv] at a1; cases a1
             exact fin h ((GR_VR (.l xs) x).1 a3) (by simp only [gvAV, aConvert, h1, h2, h3, bytesG_of hb, Option.map_some]) (fun h => h)
           · obtain ⟨g, g1, g2⟩ := findNd_ok hl
             rw [hv] at g1; cases g1
             simp only [Nd.den, valsOf, Option.map_some, Option.some.injEq, GV.l.injEq] at g2
             have := hnil hb g2.symm; subst this
             exact fin h hx (by simp only [aConvert, h1, h2, h3]) (fun h => h)
           · next id n =>
             split at hl
             · next m' et _ hg =>
               split at hl
               · next hc =>
                 cases hl
                 rw [Bool.and_eq_true] at hc
                 simp only [VR] at hx
                 obtain ⟨ys, k1, hx⟩ := hx
                 have hlen := sameLen_ok 100 hc.2 hv k1
                 rcases hx with ⟨q, hq, hle, rfl⟩ | ⟨_, rfl, rfl⟩
                 · obtain ⟨xs', j1, j2, j3, j4, j5, j6, j7, hS⟩ := unvec_ok h hg hq
                   rw [hv] at j1; cases j1
                   have hcg : cellsG xs = gvAVs xs := by unfold cellsG; rw [bytesG_cells hb]
                   have htk : takeN (cellsG xs) 0 xs.length = some (gvAVs xs) := by
                     rw [hcg]; unfold takeN
                     rw [List.drop_zero, List.take_of_length_le (by rw [gvAVs_length]; omega), if_pos (gvAVs_length xs)]
                   rw [hlen] at htk
                   refine fin (A := .sl id 0 ys.length none) hS (by simp only [VR]; exact ⟨q, hq, by simpa using hle, by simp⟩) ?_ (fun hst => unvec_right (fun e => by subst e; exact (h.at hg hq).vecPos) hg hq hv j2 j7 (unvec_left hg hst))
                   simp only [aConvert, h1, h2, h3, unvec_get, htk, bytesG_of hb, Option.map_some]
                 · have hxs : xs = [] := List.eq_nil_of_length_eq_zero (by simpa using hlen)
                   have := hnil hb hxs; subst this
                   exact fin h (A := .nils) (by simp only [VR]) (by simp only [aConvert, h1, h2, h3]) (fun h => h)
               · cases hl
             · cases hl
           · next id off len cap =>
             split at hl
             · next c et rw_ opn size agg hg hsz hag =>
               split at hl
               · next hc =>
                 rw [Bool.and_eq_true, Bool.or_eq_true, Bool.and_eq_true] at hc
                 split at hl
                 · next cs hcs =>
                   split at hl
                   · next ns hns =>
                     have hagg : agg = false → size = 1 := by
                       intro e; subst e
                       rcases hc.2 with h1 | h1
                       · simp at h1
                       · exact Nat.eq_of_beq_eq_true h1
                     obtain ⟨g, g1, g2⟩ := findNd_ok hl
                     rw [hv] at g1; cases g1
                     simp only [VR] at hx
                     obtain ⟨q, hq, hle, rfl⟩ := hx
                     obtain ⟨q', hq', ws, elem, fr, hblk, rr⟩ := h.obj _ _ hg rfl
                     rw [hq] at hq'; cases hq'
                     have hlc := (takeN_some hcs).2.1
                     obtain ⟨gs, k1, k2, k3, _, k5⟩ := elemsOf_ok (η := η) hagg len hns (rr.takeVRs hcs) hlc
                     simp only [Nd.den, k1, Option.map_some, Option.some.injEq, GV.l.injEq] at g2
                     rw [g2] at k2 k3 k5
                     have hl1 : len * size = len := by
                       cases len with
                       | zero => simp
                       | succ n =>
                         have hx0 : xs[0]? = some (xs[0]'(by omega)) := List.getElem?_eq_getElem (by omega)
                         have h5 := (k5 _ (List.mem_of_getElem? hx0)).1
                         have h6 : (xs[0]'(by omega)).cells.length = 1 := by
                           cases xs with
                           | nil => simp at k2
                           | cons y ys =>
                             cases y with
                             | i k n => rfl
                             | b => simp [bytesG] at hb
                             | s => simp [bytesG] at hb
                             | l => simp [bytesG] at hb
                             | g => simp [bytesG] at hb
                         rw [h6] at h5; rw [← h5]; simp
                     have hcg : cellsG xs = gvAVs xs := by unfold cellsG; rw [bytesG_cells hb]
                     rw [hcg] at k3
                     have hxs := bytesOf_ok (bytesG_of hb) k3
                     rw [hl1] at hcs hxs
                     refine ⟨.string ⟨⟨b⟩⟩, w, η, ?_, St.refl h, ?_⟩
                     · simp only [convert, Sem.run_bind, run_under h1, run_under h2, Result.andThen_ok, run_under h3, Conv.bytesToString]
                       rw [run_loadCells' hblk (rr.take hcs), hxs]
                       simp only [Result.andThen_ok]
                       rw [run_bytesLoop _ (fun _ _ _ => rfl)]
                       rfl
                     · obtain ⟨_, g2, _, c2, c3⟩ := mkN_ok (η := η) hm
                       simp only [Nd.den, hv, if_pos h48, hb, Option.map_some, Option.some.injEq] at c2
                       subst c2; exact c3 _ rfl (by simp only [GR])
                   · cases hl
                 · cases hl
               · cases hl
             · cases hl
           · cases hl
          · cases b2
        · cases b2
      · cases hs
    · cases hs
  · cases hs

end
end Go.Abs

/-! # AbsSymS -/
namespace Go.Abs
noncomputable section
variable [TabsOf]
set_option linter.unusedSectionVars false
set_option linter.unusedVariables false
set_option linter.unusedSimpArgs false
variable {P : Program} {η : Env} {σ σ' : ASt} {w : World}

/-! ### A slice of our own is frozen -/
/-- The frozen blocks, and one more. -/
def roAdd (ro : Nat → Option Obj) (w : World) (b : Nat) : Nat → Option Obj := fun k => if k = b then w.heap[b]? else ro k
theorem roAdd_le {ro : Nat → Option Obj} {w : World} (h : ∀ b o, ro b = some o → w.heap[b]? = some o) (b : Nat) : ∀ k o, ro k = some o → roAdd ro w b k = some o := by
  intro k o hk
  unfold roAdd
  split
  · next e => subst e; exact h _ _ hk
  · exact hk

theorem St.freeze (h : SR P η σ w) {id : Nat} {o : AObj} {q : Place} (hg : σ.get id = some o) (ho : o.own = true) (hl : σ.lock ≤ id) (hq : η id = some q) : St P η σ w ⟨η.pl, roAdd η.ro w q.bl, η.gh⟩ (σ.kill id) w := by
  have hle : (η : Env).le ⟨η.pl, roAdd η.ro w q.bl, η.gh⟩ := ⟨fun _ _ h => h, roAdd_le h.roAt q.bl, fun _ h => h⟩
  have sub : ∀ k u, (σ.kill id).get k = some u → k ≠ id ∧ σ.get k = some u := by
    intro k u hk
    rw [ASt.get_kill] at hk
    split at hk
    · cases hk
    · next e => exact ⟨e, hk⟩
  refine ⟨hle, ⟨h.glob, h.dom, fun k u hk => ?_, h.ghd, fun k u k' u' p p' a1 a2 a3 a4 a5 a6 => ?_, fun b u hb => ?_, fun k u p a1 a2 a3 => ?_, fun p hp => (h.tabs p hp).mono hle⟩, Nat.le_refl _, fun _ _ _ => rfl, fun k u p a1 a2 a3 a4 => ?_, rfl, rfl, rfl, rfl, Nat.le_refl _, fun _ h => .inl h, fun b hb => ?_⟩
  · exact (h.live k u (sub k u hk).2).mono hle
  · exact h.sep k u k' u' p p' (sub k u a1).2 a2 (sub k' u' a3).2 a4 a5 a6
  · have hb' : (if b = q.bl then w.heap[q.bl]? else η.ro b) = some u := hb
    split at hb'
    · next e => rw [e]; exact hb'
    · exact h.roAt b u hb'
  · obtain ⟨e1, e2⟩ := sub k u a1
    show (if p.bl = q.bl then w.heap[q.bl]? else η.ro p.bl) = none
    have hne := h.sep k u id o p q e2 a2 hg e1 a3 hq
    rw [if_neg hne]
    exact h.roSep k u p e2 a2 a3
  · exact .inr ⟨k, u, p, (sub k u a1).2, a2, a3, a4, rfl⟩
  · have hb' : (if b = q.bl then w.heap[q.bl]? else η.ro b) ≠ none := hb
    split at hb'
    · next e => exact .inr (.inr ⟨id, o, q, hg, ho, hl, hq, e.symm⟩)
    · exact .inl hb'

/-- What a block's cells hold, as a frozen slice. -/
theorem GR.ofCells {η : Env} {w : World} {q : Place} {c : List AV} {et : TypeId} {rw_ opn : Bool} {ro' : Nat → Option Obj} (h : OR P η q w (.cells c et rw_ opn)) (hro : ∀ b o, η.ro b = some o → ro' b = some o) (hq : ro' q.bl = w.heap[q.bl]?) {off n size cap : Nat} {cs : List AV} {gs : List GV} (ht : takeN c off (n * size) = some cs) (hn : gs.length = n) (hcap : n ≤ cap) (h0 : 0 < size)
    (hs : ∀ x ∈ gs, x.cells.length = size ∧ x.cells.all GV.scalar = true) (hc : ∀ (η' : Env) vs, (∀ b o, η.ro b = some o → η'.ro b = some o) → VRs η cs vs → VRs η' (cellsG gs) vs) : GR ro' (.l gs) (.slice (some ⟨q.bl, q.ba + off, none⟩) n cap) := by
  obtain ⟨ws, elem, fr, hb, r⟩ := h
  have h1 := r.takeVRs ht
  have hfit := r.take ht
  obtain ⟨e1, e2, e3⟩ := takeN_some ht
  have h2 := hc ⟨η.pl, ro', η.gh⟩ _ hro h1
  obtain ⟨ys, y1, y2, y3⟩ := ungroup gs _ h2 (fun x hx => (hs x hx).2)
  simp only [GR]
  right
  refine ⟨q.bl, q.ba + off, cap, ys, size, by rw [hn], by rw [hn]; exact hcap, y1, fun y hy => ?_, fun hne => ⟨ws, elem, fr, by rw [hq, hb], ?_, ?_⟩⟩
  · obtain ⟨k, hk⟩ := List.getElem?_of_mem hy
    have hkl : k < gs.length := by rw [y1.length]; exact (List.getElem?_eq_some_iff.1 hk).1
    rw [y3 k _ y (List.getElem?_eq_getElem hkl) hk]
    exact (hs _ (List.getElem_mem hkl)).1
  · rw [y2]
    have hnp : 0 < gs.length := List.length_pos_iff.2 hne
    have hp : 0 < n * size := Nat.mul_pos (by omega) h0
    rw [List.length_take, List.length_drop, Array.length_toList]
    omega
  · rw [y2]
    intro k x hk
    rw [List.getElem?_take] at hk
    split at hk
    · rw [List.getElem?_drop, Array.getElem?_toList] at hk; exact hk
    · cases hk

/-- A whole list of our own, frozen. -/
theorem VR.frz_sv (h : SR P η σ w) {id n m et : Nat} {f : Bool} {x : Value} {ro' : Nat → Option Obj} (hg : σ.get id = some (.vec m et f)) (hs : sameLen 100 m n = true) (hx : VR η (.sv id n) x) (hro : ∀ b o, η.ro b = some o → ro' b = some o) (hq : ∀ q, η id = some q → ro' q.bl = w.heap[q.bl]?) :
    ∃ ys, TabsOf.val m = some (.l ys) ∧ GR ro' (.l ys) x := by
  simp only [VR] at hx
  obtain ⟨ys, k1, hx⟩ := hx
  rcases hx with ⟨q, hq1, hle, rfl⟩ | ⟨hgh, rfl, rfl⟩
  · obtain ⟨xs, x1, x2, x3, x4, x5, x6, x7, x8⟩ := (h.at hg hq1).ofVec
    have hlen := sameLen_ok 100 hs x1 k1
    refine ⟨xs, x1, ?_⟩
    have hcl := cellsG_length x2
    have := GR.ofCells (ro' := ro') (off := 0) (n := ys.length) (size := q.es) (cap := q.sz / q.es) (cs := cellsG xs) (gs := xs) x8 hro (hq q hq1) (by
      unfold takeN
      rw [List.drop_zero, ← hlen, List.take_of_length_le (by omega), if_pos hcl]) hlen hle x4 (fun x hx => ⟨x2 x hx, x7 x hx⟩) (fun η' vs hro hvs => by
        unfold cellsG at hvs ⊢
        exact (GRs_VRs _ _).1 (GRs.mono hro _ _ ((GRs_VRs _ _).2 hvs)))
    simpa using this
  · rcases h.live id _ hg with ⟨q, hq1, _⟩ | ⟨_, n2, et2, f2, e2, hv0⟩
    · rw [(h.ghd id hgh).1] at hq1; cases hq1
    · cases e2
      exact ⟨[], hv0, by simp [GR]⟩

theorem OptVR_mono {η' : Env} (hle : η.le η') {o : Option AV} {v : Option Value} (h : OptVR η o v) : OptVR η' o v := by
  cases o <;> cases v <;> first | exact h | exact VR.mono hle _ _ h
/-- A list that has no block yet is told by another node. -/
theorem St.putGhost (h : SR P η σ w) {id m et k : Nat} {f : Bool} (hg : σ.get id = some (.vec m et f)) (hgh : η.gh id = true) (hv : TabsOf.val k = some (.l [])) : St P η σ w η (σ.put id (.vec k et f)) w := by
  have get : ∀ i u, (σ.put id (.vec k et f)).get i = some u → (i = id ∧ u = .vec k et f) ∨ (i ≠ id ∧ σ.get i = some u) := by
    intro i u hi
    rw [ASt.get_put] at hi
    split at hi
    · next e => cases hi; exact .inl ⟨e, rfl⟩
    · next e => exact .inr ⟨e, hi⟩
  have hno : ∀ q, η id ≠ some q := fun q hq => by rw [(h.ghd id hgh).1] at hq; cases hq
  refine ⟨Env.le.refl _, ⟨h.glob, h.dom, fun i u hi => ?_, h.ghd, fun i u i' u' q q' a1 a2 a3 a4 a5 a6 => ?_, h.roAt, fun i u q a1 a2 a3 => ?_, h.tabs⟩, Nat.le_refl _, fun _ _ _ => rfl, fun i u q a1 a2 a3 a4 => ?_, rfl, rfl, rfl, rfl, Nat.le_refl _, fun _ h => .inl h, fun _ h => .inl h⟩
  · rcases get i u hi with ⟨rfl, rfl⟩ | ⟨_, h1⟩
    · exact .inr ⟨hgh, k, et, f, rfl, hv⟩
    · exact h.live i u h1
  · rcases get i u a1 with ⟨rfl, _⟩ | ⟨_, h1⟩
    · exact absurd a5 (hno q)
    · rcases get i' u' a3 with ⟨rfl, _⟩ | ⟨_, h2⟩
      · exact absurd a6 (hno q')
      · exact h.sep i u i' u' q q' h1 a2 h2 a4 a5 a6
  · rcases get i u a1 with ⟨rfl, _⟩ | ⟨_, h1⟩
    · exact absurd a3 (hno q)
    · exact h.roSep i u q h1 a2 a3
  · rcases get i u a1 with ⟨rfl, _⟩ | ⟨_, h1⟩
    · exact absurd a4 (hno q)
    · exact .inr ⟨i, u, q, h1, a2, a3, a4, rfl⟩

theorem symSliceS_ok (h : SR P η σ w) {t : TypeId} {a v : AV} {x : Value} {lo hi : Option AV} {lo' hi' : Option Value} (hs : symSliceS P t σ a lo hi = some (v, σ')) (hx : VR η a x) (hlo : OptVR η lo lo') (hhi : OptVR η hi hi') :
    ∃ y w' η', (Instr.sliceAt t x lo' hi' none).run P w = .ok y w' ∧ St P η σ w η' σ' w' ∧ VR η' v y := by
  unfold symSliceS at hs
  split at hs
  rotate_left
  · cases hs
  next e id n hu =>
  split at hs
  rotate_left
  · cases hs
  next m et f size hg hsz =>
  split at hs
  rotate_left
  · cases hs
  next hc =>
  simp only [Bool.and_eq_true] at hc
  obtain ⟨⟨c1, c2⟩, c3⟩ := hc
  have e1 := Nat.eq_of_beq_eq_true c1
  subst e1
  have hlk := Nat.le_of_ble_eq_true c3
  cases lo with
  | some l0 =>
    simp only at hs
    obtain ⟨r, hr, e2⟩ := Option.map_eq_some_iff.1 hs
    cases e2
    -- frozen
    have key : ∀ η1 : Env, SR P η1 (σ.kill id) w → St P η σ w η1 (σ.kill id) w → VR η1 (.nd m) x → ∃ y w' η', (Instr.sliceAt t x lo' hi' none).run P w = .ok y w' ∧ St P η σ w η' (σ.kill id) w' ∧ VR η' v y := by
      intro η1 h1 hst hv
      obtain ⟨y, k1, k2⟩ := symSlice_ok h1 hr hv (OptVR_mono hst.ext hlo) (OptVR_mono hst.ext hhi)
      exact ⟨y, w, η1, k1, hst, k2⟩
    have hx0 := hx
    simp only [VR] at hx0
    obtain ⟨ys, k1, hx0⟩ := hx0
    rcases hx0 with ⟨q, hq1, hle, _⟩ | ⟨hgh, _, _⟩
    · have hst := St.freeze h hg rfl hlk hq1
      obtain ⟨zs, z1, z2⟩ := VR.frz_sv (ro' := roAdd η.ro w q.bl) h hg c2 hx (roAdd_le h.roAt q.bl) (fun q' hq' => by rw [hq1] at hq'; cases hq'; unfold roAdd; rw [if_pos rfl])
      exact key _ hst.rel hst (by simp only [VR]; exact ⟨_, z1, rfl, z2⟩)
    · obtain ⟨zs, z1, z2⟩ := VR.frz_sv (ro' := η.ro) h hg c2 hx (fun _ _ h => h) (fun q' hq' => by rw [(h.ghd id hgh).1] at hq'; cases hq')
      have hst := (St.refl h).killR id
      exact key η hst.rel hst (by simp only [VR]; exact ⟨_, z1, rfl, z2⟩)
  | none =>
    simp only at hs
    split at hs
    rotate_left
    · cases hs
    next z hh h1 h2 =>
    obtain ⟨k, hk, e2⟩ := Option.map_eq_some_iff.1 hs
    cases e2
    obtain ⟨g, g1, g2⟩ := findNd_ok hk
    simp only [Nd.den] at g2
    split at g2
    rotate_left
    · cases g2
    next xs kl li kh hi2 e3 e4 e5 =>
    split at g2
    rotate_left
    · cases g2
    next hc =>
    cases g2
    obtain ⟨b1, b2, b3, b4⟩ := hc
    -- from the first on
    have hz : li = 0 := by
      obtain ⟨gz, z1, z2⟩ := findNd_ok h1
      simp only [Nd.den, Option.some.injEq] at z2
      subst z2
      rw [e4] at z1; cases z1; rfl
    subst hz
    have hlt : boundLo (none : Option AV) = some z := h1
    obtain ⟨lo2, hi3, d1, d2, d3⟩ := sym_bounds (len := xs.length) hlt h2 hlo hhi e4 e5 (fun hd => by simp only [Nd.den, e3, Option.some.injEq, GV.i.injEq] at hd; exact hd.2.symm) b1 b2 b3
    have hlo2 : (0 : Int).toNat = 0 := rfl
    simp only [VR] at hx
    obtain ⟨ys, y1, hx⟩ := hx
    have hlen := sameLen_ok 100 c2 e3 y1
    have hks : (xs.take hi2.toNat).drop (0 : Int).toNat = xs.take hi2.toNat := by simp
    rw [hks] at g1
    have hhl : hi2.toNat ≤ xs.length := by omega
    rcases hx with ⟨q, hq1, hle, rfl⟩ | ⟨hgh, rfl, rfl⟩
    · have hor := h.at hg hq1
      obtain ⟨xs', cs, elem, fr, zs, o1, o2, o3, o4, o5, o6, o7, o8, o9⟩ := hor
      rw [e3] at o1; cases o1
      have hB := bounds_ok (P := P) (w := w) (sl := true) (cap := q.sz / q.es) d3 (fun k hk => by have : k ≤ xs.length := by simpa using hk
                                                                                                  omega) (by omega) d1 d2
      have hes : 0 < q.es ∧ sizeT P e = some q.es := ⟨(o7.room rfl).2.1, (o7.room rfl).2.2⟩
      have hne : size = q.es := by have := hes.2; rw [hsz] at this; cases this; rfl
      have hnew : OR P η q w (.vec k e f) := by
        have hz1 := o3.length
        refine ⟨xs.take hi2.toNat, cs, elem, fr, zs.take hi2.toNat, g1, o2, ?_, fun y hy => o4 y (List.mem_of_mem_take hy), ?_, ?_, o7, fun x hx => o8 x (List.mem_of_mem_take hx), o9⟩
        · have : ∀ (xs : List GV) (zs : List Value) (n : Nat), GRs η.ro xs zs → GRs η.ro (xs.take n) (zs.take n) := by
            intro xs
            induction xs with
            | nil => intro zs n hg; simp only [GRs] at hg; subst hg; simp [GRs]
            | cons a l ih =>
              intro zs n hg
              simp only [GRs] at hg
              obtain ⟨x, us, rfl, a1, a2⟩ := hg
              cases n with
              | zero => simp [GRs]
              | succ n => simp only [List.take_succ_cons, GRs]; exact ⟨x, us.take n, rfl, a1, ih us n a2⟩
          exact this _ _ _ o3
        · intro j x hj
          refine o5 j x ?_
          have hpre : (cellsL (zs.take hi2.toNat)) <+: cellsL zs := by
            unfold cellsL
            rw [show zs = zs.take hi2.toNat ++ zs.drop hi2.toNat from (List.take_append_drop _ _).symm]
            rw [List.flatMap_append]
            simp only [List.take_append_drop]
            exact List.prefix_append _ _
          obtain ⟨r, hr⟩ := hpre
          rw [← hr, List.getElem?_append_left (List.getElem?_eq_some_iff.1 hj).1]
          exact hj
        · rw [List.length_take]
          refine Nat.le_trans (Nat.mul_le_mul_right _ (Nat.min_le_right _ _)) o6
      have hst := St.write h hg rfl hlk hq1 (w' := w) (o' := .vec k e f) rfl (fun _ _ => rfl) rfl rfl rfl hnew
      refine ⟨.slice (some ⟨q.bl, q.ba, none⟩) hi2.toNat (q.sz / q.es), w, η, ?_, hst, ?_⟩
      · rw [hlen] at hB
        simp only [Instr.sliceAt, Instr.slice, run_under hu, Sem.run_bind, Result.andThen_ok, hB.1, run_size hsz, Sem.run_pure]
        by_cases e0 : q.sz / q.es = 0
        · simp [e0]
        · have e1 : ¬ q.sz / q.es = (0 : Int).toNat := e0
          rw [if_neg e1]
          simp [add_none]
      · simp only [VR]
        refine ⟨xs.take hi2.toNat, g1, .inl ⟨q, hq1, ?_, ?_⟩⟩
        · rw [List.length_take]; omega
        · rw [List.length_take, Nat.min_eq_left hhl]
    · have hxs : xs = [] := List.eq_nil_of_length_eq_zero (by simpa using hlen)
      subst hxs
      have hh0 : hi2.toNat = 0 := by simpa using hhl
      have hl : aSlice P t σ .nils lo2 hi3 = some .nils := by
        simp only [aSlice, hu, hsz]
        simp only [List.length_nil] at d3
        rw [d3]; rfl
      obtain ⟨y, u1, u2⟩ := slice_ok h hl (show VR η .nils (.slice none 0 0) by simp only [VR]) d1 d2
      simp only [VR] at u2
      subst u2
      have hvk : TabsOf.val k = some (.l []) := by rw [g1]; simp
      refine ⟨_, w, η, u1, St.putGhost h hg hgh hvk, ?_⟩
      simp only [VR]
      exact ⟨[], hvk, .inr ⟨hgh, by trivial, by trivial⟩⟩
end
end Go.Abs

/-! # AbsSymM -/
namespace Go.Abs
noncomputable section
variable [TabsOf]
set_option linter.unusedSectionVars false
set_option linter.unusedVariables false
set_option linter.unusedSimpArgs false
variable {P : Program} {η : Env} {σ σ' : ASt} {w : World}

/-- A key's description. -/
def kdOf (kk : Option IntKind) : TypeDesc := match kk with
  | some k => .int k
  | none => .string
theorem keyNode_ok {kt : TypeId} {k : AV} {n : Nat} {kk : Option IntKind} {y : Value} (h : keyNode P kt k = some (n, kk)) (hy : VR η k y) :
    P.underlying kt = some (kdOf kk) ∧ ∃ g, TabsOf.val n = some g ∧ keyOk kk g ∧ GR η.ro g y := by
  unfold keyNode at h
  split at h
  · next kk' m hu hn =>
    split at h
    · next z hz =>
      obtain ⟨j, hj, e⟩ := Option.map_eq_some_iff.1 h
      cases e
      obtain ⟨g, h1, _, h3⟩ := nodeOf_ok hn hy
      obtain ⟨z', h4, h5⟩ := findNd_ok hz
      simp only [Nd.den, Option.some.injEq] at h5
      subst h5
      obtain ⟨r, _, h7⟩ := findNd_ok hj
      simp only [Nd.den, h1, h4] at h7
      refine ⟨hu, g, h1, ?_, h3⟩
      cases g <;> simp only [binG, intG, reduceCtorEq] at h7
      split at h7
      · next e => subst e; exact ⟨_, rfl⟩
      · cases h7
    · cases h
  · next m hu hn =>
    split at h
    · next z hz =>
      obtain ⟨j, hj, e⟩ := Option.map_eq_some_iff.1 h
      cases e
      obtain ⟨g, h1, _, h3⟩ := nodeOf_ok hn hy
      obtain ⟨z', h4, h5⟩ := findNd_ok hz
      simp only [Nd.den, Option.some.injEq] at h5
      subst h5
      obtain ⟨r, _, h7⟩ := findNd_ok hj
      simp only [Nd.den, h1, h4] at h7
      refine ⟨hu, g, h1, ?_, h3⟩
      cases g <;> simp only [binG, strG, reduceCtorEq] at h7
      exact ⟨_, rfl⟩
    · cases h
  · cases h

theorem sameNow_int {k : IntKind} {a b : Int} : Instr.sameNow (.int k) (.int k a) (.int k b) = some (a == b) := by simp [Instr.sameNow]
theorem sameNow_str {a b : List UInt8} : Instr.sameNow .string (.string ⟨⟨a⟩⟩) (.string ⟨⟨b⟩⟩) = some (a == b) := by simp [Instr.sameNow, beqBytes]

theorem keySameN_ok {kk : Option IntKind} {n : Nat} {e : AV} {g : GV} {x y : Value} {b : Bool} (h : keySameN n e = some b) (hg : TabsOf.val n = some g) (hk : keyOk kk g) (hy : GR η.ro g y) (hx : VR η e x) :
    Instr.sameNow (kdOf kk) y x = some b := by
  unfold keySameN at h
  split at h
  · next m hm =>
    obtain ⟨g', h1, _, h3⟩ := nodeOf_ok hm hx
    have key : ∃ r, (Nd.bin .eql n m).den TabsOf.I TabsOf.val = some r ∧ r = .b b := by
      split at h
      · next b' hb =>
        cases h
        obtain ⟨j, r, q1, q2, q3⟩ := mkN_ok (η := η) hb
        refine ⟨r, q2, ?_⟩
        simp only [Nd.den, hg, h1] at q2
        have : ∃ c, r = .b c := by
          cases g <;> cases g' <;> simp only [binG, reduceCtorEq] at q2
          · split at q2
            · simp only [intG, Option.some.injEq] at q2; exact ⟨_, q2.symm⟩
            · cases q2
          · simp only [strG, Option.some.injEq] at q2; exact ⟨_, q2.symm⟩
        obtain ⟨c, rfl⟩ := this
        have := q3 (.bool c) rfl (by simp only [GR])
        simp only [VR] at this
        cases this; rfl
      · next j hb =>
        split at h
        · next b' hd =>
          cases h
          obtain ⟨j', r, q1, q2, q3⟩ := mkN_ok (η := η) hb
          refine ⟨r, q2, ?_⟩
          simp only [Nd.den, hg, h1] at q2
          have : ∃ c, r = .b c := by
            cases g <;> cases g' <;> simp only [binG, reduceCtorEq] at q2
            · split at q2
              · simp only [intG, Option.some.injEq] at q2; exact ⟨_, q2.symm⟩
              · cases q2
            · simp only [strG, Option.some.injEq] at q2; exact ⟨_, q2.symm⟩
          obtain ⟨c, rfl⟩ := this
          have h8 := q3 (.bool c) rfl (by simp only [GR])
          obtain ⟨v, hv, q4⟩ := dB_ok hd
          cases hv
          have := q4 η _ h8
          simp only [VR] at this
          cases this; rfl
        · cases h
      · cases h
    obtain ⟨r, q2, rfl⟩ := key
    simp only [Nd.den, hg, h1] at q2
    cases kk with
    | some k =>
      obtain ⟨a, rfl⟩ := hk
      simp only [GR] at hy; subst hy
      cases g' <;> simp only [binG, reduceCtorEq] at q2
      split at q2
      · next e =>
        subst e
        simp only [intG, Option.some.injEq, GV.b.injEq] at q2
        simp only [GR] at h3; subst h3
        show Instr.sameNow (.int _) _ _ = _
        rw [sameNow_int, q2]
      · cases q2
    | none =>
      obtain ⟨a, rfl⟩ := hk
      simp only [GR] at hy; subst hy
      cases g' <;> simp only [binG, strG, reduceCtorEq] at q2
      simp only [Option.some.injEq, GV.b.injEq] at q2
      simp only [GR] at h3; subst h3
      show Instr.sameNow .string _ _ = _
      rw [sameNow_str, q2]
  · cases h

theorem findN_ok {kk : Option IntKind} {n : Nat} {g : GV} {y : Value} (hg : TabsOf.val n = some g) (hk : keyOk kk g) (hy : GR η.ro g y) : ∀ {es : List (AV × AV)} {ms : List MapEntry} {i : Nat} {r : Option (Nat × AV)},
    findN n es i = some r → MRs η es ms → ∃ r', Instr.findNow (kdOf kk) y ms i = some r' ∧ (match r, r' with | none, none => True | some (_, v), some (_, z) => VR η v z | _, _ => False)
  | [], ms, i, r, h, hm => by
    simp only [findN, Option.some.injEq] at h; subst h
    have : ms = [] := by have := hm.1; cases ms <;> simp_all
    subst this
    exact ⟨none, rfl, trivial⟩
  | e :: es, ms, i, r, h, hm => by
    obtain ⟨m, rest, rfl, h1, h2, h3⟩ := hm.tail
    unfold findN at h
    split at h
    · next hs =>
      cases h
      have hs := keySameN_ok hs hg hk hy h1
      exact ⟨some (i, m.val), by simp [Instr.findNow, hs], h2⟩
    · next hs =>
      have hs := keySameN_ok hs hg hk hy h1
      obtain ⟨r', hr, hrel⟩ := findN_ok hg hk hy h h3
      exact ⟨r', by simp [Instr.findNow, hs, hr], hrel⟩
    · cases h

theorem sameNow_key {kk : Option IntKind} {g a : GV} {y x : Value} {ro : Nat → Option Obj} (hk : keyOk kk g) (ha : keyOk kk a) (hy : GR ro g y) (hx : GR ro a x) : Instr.sameNow (kdOf kk) y x = some (keyEq g a) := by
  cases kk with
  | some k =>
    obtain ⟨m, rfl⟩ := hk
    obtain ⟨n, rfl⟩ := ha
    simp only [GR] at hy hx; subst hy; subst hx
    show Instr.sameNow (.int _) _ _ = _
    rw [sameNow_int]
    simp [keyEq]
  | none =>
    obtain ⟨m, rfl⟩ := hk
    obtain ⟨n, rfl⟩ := ha
    simp only [GR] at hy hx; subst hy; subst hx
    show Instr.sameNow .string _ _ = _
    rw [sameNow_str]
    rfl
theorem findS_ok {ro : Nat → Option Obj} {kk : Option IntKind} {sz : Option Nat} {g : GV} {y : Value} (hk : keyOk kk g) (hy : GR ro g y) : ∀ {xs : List GV} {ms : List MapEntry} {i : Nat}, MapR ro kk sz xs ms →
    (assocG g xs = none ∧ Instr.findNow (kdOf kk) y ms i = some none) ∨ ∃ u j z, assocG g xs = some u ∧ Instr.findNow (kdOf kk) y ms i = some (some (j, z)) ∧ i ≤ j ∧ (∃ m, ms[j - i]? = some m ∧ Instr.sameNow (kdOf kk) y m.key = some true) ∧ valOk sz u ∧ GR ro u z
  | [], ms, i, h => by
    simp only [MapR] at h; subst h
    exact .inl ⟨rfl, rfl⟩
  | x :: xs, ms, i, h => by
    obtain ⟨a, b, m, rest, rfl, rfl, h1, h2, h3, h4, h5⟩ := h
    have hs := sameNow_key hk h1 hy h3
    cases hb : keyEq g a with
    | true =>
      rw [hb] at hs
      exact .inr ⟨b, i, m.val, by simp [assocG, hb], by simp [Instr.findNow, hs], Nat.le_refl _, ⟨m, by simp, hs⟩, h2, h4⟩
    | false =>
      rw [hb] at hs
      rcases findS_ok (i := i + 1) hk hy h5 with ⟨q1, q2⟩ | ⟨u, j, z, q1, q2, q3, ⟨m', q4, q5⟩, q6⟩
      · exact .inl ⟨by simp [assocG, hb, q1], by simp [Instr.findNow, hs, q2]⟩
      · refine .inr ⟨u, j, z, by simp [assocG, hb, q1], by simp [Instr.findNow, hs, q2], by omega, ⟨m', ?_, q5⟩, q6⟩
        have : j - i = (j - (i + 1)) + 1 := by omega
        rw [this]; simpa using q4
theorem putS_new {ro : Nat → Option Obj} {kk : Option IntKind} {sz : Option Nat} {g u : GV} {e : MapEntry} (hk : keyOk kk g) (hu : valOk sz u) (h1 : GR ro g e.key) (h2 : GR ro u e.val) : ∀ {xs : List GV} {ms : List MapEntry}, MapR ro kk sz xs ms → assocG g xs = none →
    MapR ro kk sz (putG g u xs) (ms ++ [e])
  | [], ms, h, _ => by
    simp only [MapR] at h; subst h
    exact ⟨g, u, e, [], rfl, rfl, hk, hu, h1, h2, rfl⟩
  | x :: xs, ms, h, hn => by
    obtain ⟨a, b, m, rest, rfl, rfl, q1, q2, q3, q4, q5⟩ := h
    simp only [assocG] at hn
    split at hn
    · cases hn
    · next hb =>
      simp only [putG, if_neg hb]
      exact ⟨a, b, m, rest ++ [e], rfl, rfl, q1, q2, q3, q4, putS_new hk hu h1 h2 q5 hn⟩
theorem putS_old {ro : Nat → Option Obj} {kk : Option IntKind} {sz : Option Nat} {g u : GV} {y z' : Value} (hk : keyOk kk g) (hu : valOk sz u) (h1 : GR ro g y) (h2 : GR ro u z') : ∀ {xs : List GV} {ms : List MapEntry} {i j : Nat} {z : Value}, MapR ro kk sz xs ms → Instr.findNow (kdOf kk) y ms i = some (some (j, z)) →
    MapR ro kk sz (putG g u xs) (ms.modify (j - i) fun e => { e with key := y, val := z' })
  | [], ms, i, j, z, h, hf => by
    simp only [MapR] at h; subst h
    simp [Instr.findNow] at hf
  | x :: xs, ms, i, j, z, h, hf => by
    obtain ⟨a, b, m, rest, rfl, rfl, q1, q2, q3, q4, q5⟩ := h
    have hs := sameNow_key hk q1 h1 q3
    cases hb : keyEq g a with
    | true =>
      rw [hb] at hs
      simp only [Instr.findNow, hs, Option.some.injEq, Prod.mk.injEq] at hf
      obtain ⟨rfl, rfl⟩ := hf
      simp only [putG, hb, if_true, Nat.sub_self]
      exact ⟨g, u, { m with key := y, val := z' }, rest, rfl, by simp, hk, hu, h1, h2, q5⟩
    | false =>
      rw [hb] at hs
      simp only [Instr.findNow, hs] at hf
      have hj : i + 1 ≤ j := by
        rcases findS_ok (i := i + 1) hk h1 q5 with ⟨_, r2⟩ | ⟨_, j', _, _, r2, r3, _⟩
        · rw [hf] at r2; cases r2
        · rw [hf] at r2; cases r2; exact r3
      have ih := putS_old hk hu h1 h2 q5 hf
      have e : j - i = (j - (i + 1)) + 1 := by omega
      rw [e]
      simp only [putG, hb, Bool.false_eq_true, if_false, List.modify_succ_cons]
      exact ⟨a, b, m, _, rfl, rfl, q1, q2, q3, q4, ih⟩

theorem checkKeyN {kt : TypeId} {kk : Option IntKind} {g : GV} {y : Value} (hu : P.underlying kt = some (kdOf kk)) (hk : keyOk kk g) (hy : GR η.ro g y) (b : Bool) : (Instr.checkKey b 10000 kt y).run P w = .ok () w := by
  have H : ∀ n : Nat, (Instr.checkKey b (n + 1) kt y).run P w = .ok () w := fun n => by
    cases kk with
    | some k =>
      obtain ⟨m, rfl⟩ := hk
      simp only [GR] at hy; subst hy
      simp only [Instr.checkKey, Sem.run_bind, run_under hu, Result.andThen_ok, kdOf, Sem.run_pure]
    | none =>
      obtain ⟨m, rfl⟩ := hk
      simp only [GR] at hy; subst hy
      simp only [Instr.checkKey, Sem.run_bind, run_under hu, Result.andThen_ok, kdOf, Sem.run_pure]
  exact H 9999

theorem valNode_ok {et : TypeId} {v : AV} {n : Nat} {sz : Option Nat} {x : Value} (h : valNode P et v = some (n, sz)) (hx : VR η v x) : ∃ g, TabsOf.val n = some g ∧ valOk sz g ∧ GR η.ro g x ∧ (match isAggT P et with
    | some true => ∃ k, sizeT P et = some k ∧ sz = some k
    | some false => sz = none
    | none => False) := by
  unfold valNode at h
  split at h
  · next ha =>
    split at h
    · next n' k hn hk =>
      split at h
      · next he =>
        cases h
        obtain ⟨l, gs, rfl, h1, h2, h3, h4⟩ := aggNode_ok hn hx
        rw [ha]
        refine ⟨_, h2, ⟨gs, rfl, ?_, h3⟩, h4, k, hk, rfl⟩
        rw [h1]; exact Nat.eq_of_beq_eq_true he
      · cases h
    · cases h
  · next ha =>
    obtain ⟨n', hn, e⟩ := Option.map_eq_some_iff.1 h
    cases e
    obtain ⟨g, h1, h2, h3⟩ := nodeOf_ok hn hx
    rw [ha]
    exact ⟨g, h1, h2, h3, rfl⟩
  · cases h
theorem kkEq_eq {a b : Option IntKind} (h : kkEq a b = true) : a = b := by
  cases a <;> cases b <;> simp only [kkEq] at h
  · rfl
  · cases h
  · cases h
  · rw [kc_inj h]
theorem szEq_eq {a b : Option Nat} (h : szEq a b = true) : a = b := by
  cases a <;> cases b <;> simp only [szEq] at h
  · rfl
  · cases h
  · cases h
  · rw [Nat.eq_of_beq_eq_true h]

theorem zeroAV_ok {et : TypeId} {z : AV} (h : zeroAV P et = some z) : ∃ x, (zeroValue et).run P w = .ok x w ∧ VR η z x := by
  unfold zeroAV at h
  split at h
  · next i hi =>
    split at h
    · next x hx =>
      obtain ⟨h3, h4⟩ := zeroOf_ok (w := w) (η := η) hi hx h
      exact ⟨x, h3, h4⟩
    · cases h
  · cases h

/-- A value's cells are whole. -/
theorem gvAVs_all : ∀ (cs : List GV) (n : Nat), cs.length = n → takeN (gvAVs cs) 0 n = some (gvAVs cs) := by
  intro cs n hn
  have hl : (gvAVs cs).length = n := by rw [gvAVs_length, hn]
  simp only [takeN, List.drop_zero]
  rw [List.take_of_length_le (by omega), if_pos hl]

theorem findS (s : ByteArray) : ∀ (l : List MapEntry) (i : Nat), (∀ m ∈ l, ∃ t, m.key = .string t) →
    (∃ j m, Instr.findNow .string (.string s) l i = some (some (j, m.val)) ∧ m ∈ l ∧ m.key = .string s) ∨ (Instr.findNow .string (.string s) l i = some none ∧ ∀ m ∈ l, m.key ≠ .string s)
  | [], i, _ => .inr ⟨rfl, fun m hm => by simp at hm⟩
  | m :: l, i, h => by
    obtain ⟨t, ht⟩ := h m (by simp)
    have hs : Instr.sameNow .string (.string s) m.key = some (s == t) := by rw [ht]; rfl
    have hbb : (s == t) = decide (s = t) := by
      obtain ⟨⟨a⟩⟩ := s
      obtain ⟨⟨b⟩⟩ := t
      rw [beqBytes]
      by_cases c : a = b
      · subst c; simp
      · rw [decide_eq_false (by simpa using c)]; simpa using c
    by_cases c : s = t
    · subst c
      rw [hbb, decide_eq_true rfl] at hs
      exact .inl ⟨i, m, by simp [Instr.findNow, hs], by simp, ht⟩
    · rw [hbb, decide_eq_false c] at hs
      rcases findS s l (i + 1) (fun m hm => h m (by simp [hm])) with ⟨j, m', h1, h2, h3⟩ | ⟨h1, h2⟩
      · exact .inl ⟨j, m', by simp [Instr.findNow, hs, h1], by simp [h2], h3⟩
      · refine .inr ⟨by simp [Instr.findNow, hs, h1], fun m' hm' => ?_⟩
        simp only [List.mem_cons] at hm'
        rcases hm' with rfl | hm'
        · rw [ht]; simpa using fun e => c e.symm
        · exact h2 m' hm'
theorem findNow_perm (s : ByteArray) {l l' : List MapEntry} (hp : l.Perm l') (hk : ∀ m ∈ l', ∃ t, m.key = .string t) (hn : (l'.map (·.key)).Nodup) {r : Option (Nat × Value)} (h : Instr.findNow .string (.string s) l' 0 = some r) :
    ∃ r', Instr.findNow .string (.string s) l 0 = some r' ∧ (match r, r' with | none, none => True | some (_, v), some (_, z) => v = z | _, _ => False) := by
  have hk2 : ∀ m ∈ l, ∃ t, m.key = .string t := fun m hm => hk m (hp.mem_iff.1 hm)
  have inj : ∀ m ∈ l', ∀ m' ∈ l', m.key = m'.key → m = m' := by
    clear hp hk h hk2
    induction l' with
    | nil => intro m hm; simp at hm
    | cons a l ih =>
      simp only [List.map_cons, List.nodup_cons, List.mem_map, not_exists, not_and] at hn
      intro m hm m' hm' e
      simp only [List.mem_cons] at hm hm'
      rcases hm with rfl | hm <;> rcases hm' with rfl | hm'
      · rfl
      · exact absurd e.symm (hn.1 m' hm')
      · exact absurd e (hn.1 m hm)
      · exact ih hn.2 m hm m' hm' e
  rcases findS s l' 0 hk with ⟨j, m, h1, h2, h3⟩ | ⟨h1, h2⟩ <;> rcases findS s l 0 hk2 with ⟨j', m', h4, h5, h6⟩ | ⟨h4, h5⟩
  · rw [h1] at h; cases h
    refine ⟨_, h4, ?_⟩
    have := inj m h2 m' (hp.mem_iff.1 h5) (by rw [h3, h6])
    subst this
    rfl
  · exact absurd h3 (h5 m (hp.mem_iff.2 h2))
  · exact absurd h6 (h2 m' (hp.mem_iff.1 h5))
  · rw [h1] at h; cases h
    exact ⟨_, h4, trivial⟩

theorem symLookup_ok (h : SR P η σ w) {t : TypeId} {m k v : AV} {x y : Value} {ok : Bool} (hs : symLookup P t m k ok σ = some v) (hx : VR η m x) (hy : VR η k y) :
    ∃ z, (Instr.lookup t x y ok).run P w = .ok z w ∧ VR η v z := by
  unfold symLookup at hs
  split at hs
  rotate_left
  · cases hs
  next kt et id hu =>
  simp only [VR] at hx
  obtain ⟨q, hq, rfl⟩ := hx
  split at hs
  · next n kk es hn hg =>
    obtain ⟨hku, g, g1, g2, g3⟩ := keyNode_ok hn hy
    obtain ⟨q', hq', ms, clock, hb, hsz, hp⟩ := h.obj _ _ hg rfl
    rw [hq] at hq'; cases hq'
    have hmr : MRs η es ms.toList := ⟨by simpa using hsz, fun k e hk => by obtain ⟨m, hm, h1, h2⟩ := hp k e hk; exact ⟨m, by simpa using hm, h1, h2⟩⟩
    rw [lookup_some hu y ok hb]
    have hck : ∀ b, (Instr.checkKey b 10000 kt y).run P w = .ok () w := fun b => checkKeyN hku g2 g3 b
    split at hs
    · next j u hf =>
      cases hs
      obtain ⟨r', h1, h2⟩ := findN_ok g1 g2 g3 hf hmr
      cases r' with
      | none => exact h2.elim
      | some p =>
        obtain ⟨j', z⟩ := p
        have hfk : (Instr.findKey kt y ms.toList).run P w = .ok (some (j', z)) w := by simp only [Instr.findKey, Sem.run_bind, run_under hku, Result.andThen_ok, h1, Sem.run_pure]
        refine ⟨if ok then .tuple #[z, .bool true] else z, ?_, ?_⟩
        · simp only [lkTail, Sem.run_bind, Result.andThen_ok, hck, hfk, Sem.run_pure]
        · cases ok
          · simpa using h2
          · simp only [VR]; exact ⟨[z, .bool true], rfl, VRs.cons h2 (VRs.cons (by simp [VR]) (by simp [VRs]))⟩
    · next hf =>
      obtain ⟨r', h1, h2⟩ := findN_ok g1 g2 g3 hf hmr
      cases r' with
      | some p => exact h2.elim
      | none =>
        have hfk : (Instr.findKey kt y ms.toList).run P w = .ok none w := by simp only [Instr.findKey, Sem.run_bind, run_under hku, Result.andThen_ok, h1, Sem.run_pure]
        obtain ⟨a, ha, rfl⟩ := Option.map_eq_some_iff.1 hs
        obtain ⟨z, h3, h4⟩ := zeroAV_ok (w := w) (η := η) ha
        refine ⟨if ok then .tuple #[z, .bool false] else z, ?_, ?_⟩
        · simp only [lkTail, Sem.run_bind, Result.andThen_ok, hck, hfk, h3, Sem.run_pure]
        · cases ok
          · simpa using h4
          · simp only [VR]; exact ⟨[z, .bool false], rfl, VRs.cons h4 (VRs.cons (by simp [VR]) (by simp [VRs]))⟩
    · cases hs
  · next n kk es hn hg =>
    obtain ⟨hku, g, g1, g2, g3⟩ := keyNode_ok hn hy
    obtain ⟨q', hq', hnd, ms, clock, ms', hb, hpm, hsz, hp⟩ := h.obj _ _ hg rfl
    rw [hq] at hq'; cases hq'
    split at hs
    rotate_left
    · cases hs
    next hkk =>
    have := kkEq_eq hkk
    subst this
    have hmr : MRs η (es.map fun e => (AV.s e.1, e.2)) ms' := ⟨by simpa using hsz, fun k e hk => by
      rw [List.getElem?_map] at hk
      obtain ⟨e0, h4, rfl⟩ := Option.map_eq_some_iff.1 hk
      obtain ⟨m, hm, h1, h2⟩ := hp k e0 h4
      exact ⟨m, hm, by simp only [VR]; exact h1, h2⟩⟩
    have hkeys : ms'.map (·.key) = es.map fun e => Value.string ⟨⟨e.1⟩⟩ := by
      apply List.ext_getElem?
      intro k
      rw [List.getElem?_map, List.getElem?_map]
      cases he : es[k]? with
      | none => 
        have : ms'[k]? = none := by rw [List.getElem?_eq_none_iff] at he ⊢; omega
        rw [this]; rfl
      | some e =>
        obtain ⟨m, hm, h1, _⟩ := hp k e he
        rw [hm]; simp [h1]
    have hks : ∀ m ∈ ms', ∃ t, m.key = .string t := fun m hm => by
      have : m.key ∈ ms'.map (·.key) := List.mem_map_of_mem hm
      rw [hkeys] at this
      obtain ⟨e, _, h1⟩ := List.mem_map.1 this
      exact ⟨_, h1.symm⟩
    have hnd2 : (ms'.map (·.key)).Nodup := by
      rw [hkeys]
      have : (es.map fun e => Value.string ⟨⟨e.1⟩⟩) = (es.map (·.1)).map fun s => Value.string ⟨⟨s⟩⟩ := by simp
      rw [this]
      refine List.Pairwise.map _ (fun a b hab hc => hab ?_) hnd
      simpa using hc
    obtain ⟨s, hs1, hs2⟩ : ∃ s, y = .string s ∧ True := by
      obtain ⟨s0, rfl⟩ := g2
      simp only [GR] at g3
      exact ⟨_, g3, trivial⟩
    subst hs1
    rw [lookup_some hu _ ok hb]
    have hck : ∀ b, (Instr.checkKey b 10000 kt (.string s)).run P w = .ok () w := fun b => checkKeyN hku g2 g3 b
    split at hs
    · next j u hf =>
      cases hs
      obtain ⟨r', h1, h2⟩ := findN_ok g1 g2 g3 hf hmr
      cases r' with
      | none => exact h2.elim
      | some p =>
        obtain ⟨j', z⟩ := p
        obtain ⟨r2, h3, h4⟩ := findNow_perm s hpm hks hnd2 h1
        cases r2 with
        | none => exact h4.elim
        | some p2 =>
        obtain ⟨j2, z2⟩ := p2
        have h4 : z = z2 := h4
        subst h4
        have hfk : (Instr.findKey kt (.string s) ms.toList).run P w = .ok (some (j2, z)) w := by simp only [Instr.findKey, Sem.run_bind, run_under hku, Result.andThen_ok, kdOf, h3, Sem.run_pure]
        refine ⟨if ok then .tuple #[z, .bool true] else z, ?_, ?_⟩
        · simp only [lkTail, Sem.run_bind, Result.andThen_ok, hck, hfk, Sem.run_pure]
        · cases ok
          · simpa using h2
          · simp only [VR]; exact ⟨[z, .bool true], rfl, VRs.cons h2 (VRs.cons (by simp [VR]) (by simp [VRs]))⟩
    · next hf =>
      obtain ⟨r', h1, h2⟩ := findN_ok g1 g2 g3 hf hmr
      cases r' with
      | some p => exact h2.elim
      | none =>
        obtain ⟨r2, h3, h4⟩ := findNow_perm s hpm hks hnd2 h1
        cases r2 with
        | some p2 => exact h4.elim
        | none =>
        have hfk : (Instr.findKey kt (.string s) ms.toList).run P w = .ok none w := by simp only [Instr.findKey, Sem.run_bind, run_under hku, Result.andThen_ok, kdOf, h3, Sem.run_pure]
        obtain ⟨a, ha, rfl⟩ := Option.map_eq_some_iff.1 hs
        obtain ⟨z, h5, h6⟩ := zeroAV_ok (w := w) (η := η) ha
        refine ⟨if ok then .tuple #[z, .bool false] else z, ?_, ?_⟩
        · simp only [lkTail, Sem.run_bind, Result.andThen_ok, hck, hfk, h5, Sem.run_pure]
        · cases ok
          · simpa using h6
          · simp only [VR]; exact ⟨[z, .bool false], rfl, VRs.cons h6 (VRs.cons (by simp [VR]) (by simp [VRs]))⟩
    · cases hs
  · next n kk j kk' sz hn hg =>
    obtain ⟨hku, g, g1, g2, g3⟩ := keyNode_ok hn hy
    obtain ⟨q', hq', xs, ms, clock, hv, hb, hp⟩ := h.obj _ _ hg rfl
    rw [hq] at hq'; cases hq'
    rw [lookup_some hu y ok hb]
    have hck : ∀ b, (Instr.checkKey b 10000 kt y).run P w = .ok () w := fun b => checkKeyN hku g2 g3 b
    split at hs
    rotate_left
    · cases hs
    next hkk =>
    have := kkEq_eq hkk
    subst this
    split at hs
    rotate_left
    · cases hs
    next zn sz' hz =>
    split at hs
    rotate_left
    · cases hs
    next hsz =>
    have := szEq_eq hsz
    subst this
    obtain ⟨za, hza, hzn⟩ := Option.bind_eq_some_iff.1 hz
    obtain ⟨zv, z1, z2⟩ := zeroAV_ok (w := w) (η := η) hza
    obtain ⟨zg, z3, z4, z5, z6⟩ := valNode_ok hzn z2
    split at hs
    rotate_left
    · cases hs
    next u hu' =>
    obtain ⟨jn, hj, hpart⟩ := Option.bind_eq_some_iff.1 hu'
    obtain ⟨rg, r1, r2⟩ := findNd_ok hj
    simp only [Nd.den, z3, hv, g1, Option.some.injEq] at r2
    -- what comes
    have fin : ∀ (z : Value) (b : Bool), valOk sz rg → GR η.ro rg z → (assocG g xs).isSome = b → lkTail kt et y ok ms = lkTail kt et y ok ms → (lkTail kt et y ok ms).run P w = .ok (if ok then .tuple #[z, .bool b] else z) w → ∃ z, (lkTail kt et y ok ms).run P w = .ok z w ∧ VR η v z := by
      intro z b hok hgr hb' _ hrun
      have hvu : VR η u z := by
        obtain ⟨r, q1, q2⟩ := symPart_ok (η := η) r1 hpart
        cases hag : isAggT P et with
        | none => rw [hag] at z6; exact z6.elim
        | some ag =>
          rw [hag] at z6 q1
          cases ag with
          | true =>
            obtain ⟨kn, k1, k2⟩ := z6
            subst k2
            obtain ⟨cs, rfl, c1, c2⟩ := hok
            simp only [k1, GV.cells, gvAVs_all cs kn c1, Option.map_some, Option.some.injEq] at q1
            subst q1
            apply q2
            simp only [GR] at hgr
            obtain ⟨vs, rfl, hgs⟩ := hgr
            simp only [VR]
            exact ⟨vs, rfl, (GRs_VRs _ _).1 hgs⟩
          | false =>
            simp only at z6
            subst z6
            have hsc : rg.scalar = true := hok
            have hc : rg.cells = [rg] := by cases rg <;> first | rfl | (simp [GV.scalar] at hsc)
            simp only [hc, gvAVs_get, List.getElem?_cons_zero, Option.map_some, Option.some.injEq] at q1
            subst q1
            exact q2 _ ((GR_VR _ _).1 hgr)
      cases ok with
      | false =>
        simp only [Bool.false_eq_true, if_false, Option.some.injEq] at hs hrun
        subst hs
        exact ⟨z, hrun, hvu⟩
      | true =>
        simp only [if_true] at hs hrun
        split at hs
        · next bb hbb =>
          cases hs
          obtain ⟨_, gb, _, b2, b3⟩ := mkN_ok (η := η) hbb
          simp only [Nd.den, hv, g1, Option.some.injEq] at b2
          subst b2
          refine ⟨_, hrun, ?_⟩
          simp only [VR]
          exact ⟨[z, .bool b], rfl, VRs.cons hvu (VRs.cons (b3 _ rfl (by simp only [GR]; rw [hb'])) (by simp [VRs]))⟩
        · cases hs
    rcases findS_ok (i := 0) g2 g3 hp with ⟨q1, q2⟩ | ⟨u', j', z, q1, q2, _, _, q5, q6⟩
    · have hfk : (Instr.findKey kt y ms.toList).run P w = .ok none w := by simp only [Instr.findKey, Sem.run_bind, run_under hku, Result.andThen_ok, q2, Sem.run_pure]
      rw [q1, Option.getD_none] at r2
      subst r2
      refine fin zv false z4 z5 (by rw [q1]; rfl) rfl ?_
      simp only [lkTail, Sem.run_bind, Result.andThen_ok, hck, hfk, z1, Sem.run_pure]
    · have hfk : (Instr.findKey kt y ms.toList).run P w = .ok (some (j', z)) w := by simp only [Instr.findKey, Sem.run_bind, run_under hku, Result.andThen_ok, q2, Sem.run_pure]
      rw [q1, Option.getD_some] at r2
      subst r2
      refine fin z true q5 q6 (by rw [q1]; rfl) rfl ?_
      simp only [lkTail, Sem.run_bind, Result.andThen_ok, hck, hfk, Sem.run_pure]
  · cases hs

theorem sameBitsN {kk : Option IntKind} {g a : GV} {y x : Value} (hk : keyOk kk g) (hy : GR η.ro g y) (hs : Instr.sameNow (kdOf kk) y x = some true) (n : Nat) : Instr.sameBits (n + 1) x y = true := by
  cases kk with
  | some k =>
    obtain ⟨m, rfl⟩ := hk
    simp only [GR] at hy; subst hy
    cases x <;> simp only [Instr.sameNow, kdOf, reduceCtorEq] at hs
    split at hs
    · next e => subst e; simp at hs; subst hs; simp [Instr.sameBits]
    · cases hs
  | none =>
    obtain ⟨m, rfl⟩ := hk
    simp only [GR] at hy; subst hy
    cases x <;> simp only [Instr.sameNow, kdOf, reduceCtorEq] at hs
    next s =>
    obtain ⟨⟨l⟩⟩ := s
    rw [beqBytes] at hs
    simp only [Instr.sameBits, beqBytes]
    simp_all

theorem symMapUpdate_ok (h : SR P η σ w) {t : TypeId} {m k v : AV} {x y z : Value} (hs : symMapUpdate P t m k v σ = some σ') (hx : VR η m x) (hy : VR η k y) (hz : VR η v z) :
    ∃ w', (Instr.mapUpdate t x y z).run P w = .ok () w' ∧ St P η σ w η σ' w' := by
  unfold symMapUpdate at hs
  split at hs
  rotate_left
  · cases hs
  next kt et id hu =>
  simp only [VR] at hx
  obtain ⟨q, hq, rfl⟩ := hx
  split at hs
  rotate_left
  · cases hs
  next hl =>
  have hl := Nat.le_of_ble_eq_true hl
  -- the list, and what is put
  have main : ∀ (o : AObj) (n : Nat) (kk : Option IntKind) (u : Nat) (sz : Option Nat) (j j' : Nat) (xs : List GV) (ms : Array MapEntry) (clock : Nat), σ.get id = some o → o.own = true → keyNode P kt k = some (n, kk) → valNode P et v = some (u, sz) →
      TabsOf.val j = some (.l xs) → w.heap[q.bl]? = some (.map ms clock) → MapR η.ro kk sz xs ms.toList → findNd (.mput j n u) = some j' → ∃ w', (Instr.mapUpdate t (.map (some q.bl)) y z).run P w = .ok () w' ∧ St P η σ w η (σ.put id (.smap j' kk sz)) w' := by
    intro o n kk u sz j j' xs ms clock hg ho hn hvn hj hb hp hf
    obtain ⟨hku, g, g1, g2, g3⟩ := keyNode_ok hn hy
    obtain ⟨ug, u1, u2, u3, _⟩ := valNode_ok hvn hz
    obtain ⟨rg, r1, r2⟩ := findNd_ok hf
    simp only [Nd.den, hj, g1, u1, Option.some.injEq] at r2
    subst r2
    have hck := checkKeyN (w := w) hku g2 g3 false
    have hgo : (getObj q.bl).run P w = .ok (.map ms clock) w := by simp [getObj, Sem.run, hb]
    rcases findS_ok (i := 0) g2 g3 hp with ⟨q1, q2⟩ | ⟨u', i, zz, q1, q2, _, ⟨m', q3, q4⟩, q5, q6⟩
    · have hfk : (Instr.findKey kt y ms.toList).run P w = .ok none w := by simp only [Instr.findKey, Sem.run_bind, run_under hku, Result.andThen_ok, q2, Sem.run_pure]
      refine ⟨setBlk w q.bl (.map (ms.push { key := y, val := z, born := clock }) (clock + 1)), ?_, St.write h hg ho hl hq setBlk_size (fun k hk => setBlk_ne hk) rfl rfl rfl ?_⟩
      · simp only [Instr.mapUpdate, Sem.run_bind, run_under hu, Result.andThen_ok, hgo, hck, hfk]
        exact setObj_ok hb (by simp)
      · refine ⟨_, _, clock + 1, r1, setBlk_at hb, ?_⟩
        rw [Array.toList_push]
        exact putS_new g2 u2 g3 u3 hp q1
    · have hfk : (Instr.findKey kt y ms.toList).run P w = .ok (some (i, zz)) w := by simp only [Instr.findKey, Sem.run_bind, run_under hku, Result.andThen_ok, q2, Sem.run_pure]
      rw [Nat.sub_zero, Array.getElem?_toList] at q3
      have hstay : (Instr.keyThatStays (((ms[i]?).map (·.key)).getD y) y).run P w = .ok y w := by
        rw [q3]
        simp only [Option.map_some, Option.getD_some, Instr.keyThatStays]
        rw [if_pos (sameBitsN (a := g) g2 g3 q4 9999)]; rfl
      refine ⟨setBlk w q.bl (.map (ms.modify i fun e => { e with key := y, val := z }) clock), ?_, St.write h hg ho hl hq setBlk_size (fun k hk => setBlk_ne hk) rfl rfl rfl ?_⟩
      · simp only [Instr.mapUpdate, Sem.run_bind, run_under hu, Result.andThen_ok, hgo, hck, hfk, hstay]
        exact setObj_ok hb (by simp)
      · refine ⟨_, _, clock, r1, setBlk_at hb, ?_⟩
        rw [Array.toList_modify]
        have := putS_old (i := 0) g2 u2 g3 u3 hp q2
        rwa [Nat.sub_zero] at this
  split at hs
  · next n kk u sz hn hvn hg =>
    split at hs
    · next j hj =>
      obtain ⟨j', hf, rfl⟩ := Option.map_eq_some_iff.1 hs
      obtain ⟨q', hq', ms, clock, hb, hsz, hp⟩ := h.obj _ _ hg rfl
      rw [hq] at hq'; cases hq'
      obtain ⟨gl, l1, l2⟩ := findNd_ok hj
      simp only [Nd.den, valsOf, Option.map_some, Option.some.injEq] at l2
      subst l2
      refine main _ n kk u sz j j' [] ms clock hg rfl hn hvn l1 hb ?_ hf
      simp only [MapR]
      have : ms.size = 0 := by simpa using hsz
      simpa using Array.eq_empty_of_size_eq_zero this
    · cases hs
  · next n kk u sz j kk' sz' hn hvn hg =>
    split at hs
    · next hc =>
      rw [Bool.and_eq_true] at hc
      have e1 := kkEq_eq hc.1
      have e2 := szEq_eq hc.2
      subst e1; subst e2
      obtain ⟨j', hf, rfl⟩ := Option.map_eq_some_iff.1 hs
      obtain ⟨q', hq', xs, ms, clock, hv, hb, hp⟩ := h.obj _ _ hg rfl
      rw [hq] at hq'; cases hq'
      exact main _ n kk u sz j j' xs ms clock hg rfl hn hvn hv hb hp hf
    · cases hs
  · cases hs
theorem mapArg_ok {v : AV} {x : Value} (h : mapArg v = true) (hx : VR η v x) : ∃ k n, x = .int k n := by
  unfold mapArg at h
  split at h
  · next n =>
    split at h
    · next a hn =>
      obtain ⟨g, h1, h2⟩ := TabsOf.nodeOk _ _ hn (by simp)
      simp only [VR] at hx
      obtain ⟨g', h3, _, h4⟩ := hx
      rw [h1] at h3; cases h3
      simp only [Nd.den] at h2
      split at h2
      · cases h2
        simp only [GR] at h4
        exact ⟨_, _, h4⟩
      · cases h2
    · cases h
  · next hne =>
    obtain ⟨n, hn⟩ := Option.isSome_iff_exists.1 h
    obtain ⟨k, hk⟩ := aInt_VR hn hx
    exact ⟨k, n, hk⟩

/-! ### Literal slices whose elements are not known -/
theorem litNode_ok {e : TypeId} {size len m : Nat} {cs : List AV} {vs : List Value} (h : litNode P e size len cs = some m) (hv : VRs η cs vs) : 0 < size ∧ 0 < len ∧ cs.length = len * size ∧ ∃ gs, TabsOf.val m = some (.l gs) ∧ gs.length = len ∧ VRs η (cellsG gs) vs ∧ ∀ x ∈ gs, x.cells.length = size ∧ x.cells.all GV.scalar = true := by
  unfold litNode at h
  split at h
  rotate_left
  · cases h
  split at h
  rotate_left
  · cases h
  next agg ha =>
  split at h
  rotate_left
  · cases h
  next hc =>
  simp only [Bool.and_eq_true, Bool.or_eq_true, Nat.blt_eq] at hc
  obtain ⟨⟨h1, h2⟩, h3⟩ := hc
  have h3 := Nat.eq_of_beq_eq_true h3
  have hpos : 0 < size := by
    rcases h1 with ⟨_, h1⟩ | h1
    · exact h1
    · have := Nat.eq_of_beq_eq_true h1; omega
  have h11 : agg = false → size = 1 := by
    intro e
    rcases h1 with ⟨h1, _⟩ | h1
    · rw [e] at h1; cases h1
    · exact Nat.eq_of_beq_eq_true h1
  split at h
  · next ns hns =>
    obtain ⟨gs, k1, k2, k3, _, k5⟩ := elemsOf_ok h11 len hns hv h3
    obtain ⟨g, g1, g2⟩ := findNd_ok h
    simp only [Nd.den, k1, Option.map_some, Option.some.injEq] at g2
    subst g2
    exact ⟨hpos, h2, h3, gs, g1, k2, k3, k5⟩
  · cases h
theorem litSl_ok {R : Prop} {t e : TypeId} {size bytes len : Nat} {z : List AV} {ps : List (Nat × AV)} {qs : Array (Nat × Value)} {cs : List AV}
    (fin : ∀ (v : AV) (τ : ASt), litSl P σ e size len cs = (some v, τ) → (∃ y w' η', (Instr.buildSlice t len qs).run P w = .ok y w' ∧ St P η σ w η' τ w' ∧ VR η' v y) → R)
    (h : SR P η σ w) (hi : elemInfo P t = some (e, size, bytes, z)) (hlen : ¬ len * size > 2 ^ 24) (hf : aFill (fun i => some (i * size, size)) (if len * size = 0 then [] else repl len z) ps = some cs) (hp : PRs η ps qs.toList) : R := by
  unfold litSl at fin
  split at fin
  rotate_left
  · exact fin _ _ rfl (buildSlice_ok h hi hlen hf hp)
  next m hm =>
  refine fin _ _ rfl ?_
  obtain ⟨hu, _, hz, he, hzl, hn⟩ := elemInfo_some hi
  obtain ⟨zv, hzr, hzv⟩ := run_zero hz
  have hpos : 0 < size ∧ 0 < len := by
    unfold litNode at hm
    split at hm
    rotate_left
    · cases hm
    split at hm
    rotate_left
    · cases hm
    next agg ha =>
    split at hm
    rotate_left
    · cases hm
    next hc =>
    simp only [Bool.and_eq_true, Bool.or_eq_true, Nat.blt_eq] at hc
    refine ⟨?_, hc.1.2⟩
    rcases hc.1.1 with ⟨_, h1⟩ | h1
    · exact h1
    · have := Nat.eq_of_beq_eq_true h1; omega
  have h0 : ¬ len * size = 0 := by
    have := Nat.mul_pos hpos.2 hpos.1
    omega
  simp only [h0, if_false] at hf
  obtain ⟨xs, hfill, hxs⟩ := fill_ok hf hp (zeros_VRs (hzv η) hzl)
  have hl := hxs.length
  have hal := cells_new h (c := cs) (xs := xs) (elem := e) (es := size) (opn := true) (by rw [hl, List.take_length]; exact hxs) (by simpa using Nat.le_of_eq hl) (by simp) (fun _ => ⟨he, hpos.1, hn⟩)
  obtain ⟨_, _, hcl, gs, g1, g2, _, g4⟩ := litNode_ok hm hxs
  have hsz : xs.size = len * size := by rw [← hcl, hl]; simp
  have hdiv : xs.size / size = len := by rw [hsz]; exact Nat.mul_div_cancel _ hpos.1
  obtain ⟨q1, q2⟩ := St.toVec (f := false) (size := size) (y := .slice (some ⟨w.heap.size, 0, none⟩) len len) hal g1 g4 hn (fun vs hvs => by
      obtain ⟨_, _, _, gs', k1, _, k3, _⟩ := litNode_ok hm hvs
      rw [g1] at k1; cases k1
      exact k3) (by
      simp only [VR]
      refine ⟨⟨w.heap.size, 0, xs.size, size⟩, by simp [Env.put], ?_, ?_⟩
      · simp only [Option.getD_none, Nat.sub_zero]
        rw [hdiv, g2]; simp
      · simp only [Option.getD_none, Nat.sub_zero, hdiv, g2, Nat.add_zero]) (by simp)
  refine ⟨_, _, _, ?_, q1, q2⟩
  simp only [Instr.buildSlice, Sem.run_bind, run_under hu, Result.andThen_ok, run_size hn, Sem.run_ite, if_neg hlen, h0, if_false, hzr, Sem.run_pure, hfill, newRow, newObj, Sem.run]
end
end Go.Abs

/-! # AbsStep -/
namespace Go.Abs
noncomputable section
variable [TabsOf]
set_option linter.unusedSectionVars false
set_option linter.unusedVariables false
set_option linter.unusedSimpArgs false
variable {P : Program} {η : Env} {σ σ' : ASt} {w : World}

/-- The slots. -/
structure TR (P : Program) (η : Env) (a : AAct) (A : Act) : Prop where
  gn : a.gn = P.globals.size
  size : A.tmps.size = a.n
  none : A.defers = []
  slot : ∀ t v, a.t.get t = some v → ∃ x, A.tmps[t]? = some x ∧ VR η v x

theorem TR.mono {η η' : Env} {a : AAct} {A : Act} (h : TR P η a A) (hle : η.le η') : TR P η' a A :=
  ⟨h.gn, h.size, h.none, fun t v hv => by obtain ⟨x, hx, hr⟩ := h.slot t v hv; exact ⟨x, hx, VR.mono hle _ _ hr⟩⟩

theorem TR.put {a a' : AAct} {A : Act} {dst : Option Tmp} {r : Option AV} {x : Value} (h : TR P η a A) (hp : a.put dst r = some a') (hr : ∀ v, r = some v → VR η v x) : TR P η a' (A.put dst x) := by
  unfold AAct.put at hp
  split at hp
  · cases hp; exact h
  · next d =>
    split at hp
    · next hd =>
      cases hp
      refine ⟨h.gn, by simp [Act.put, h.size], h.none, fun t v hv => ?_⟩
      rw [Tr.get_set] at hv
      show ∃ y, (A.tmps.setIfInBounds d x)[t]? = some y ∧ _
      rw [Array.getElem?_setIfInBounds]
      split at hv
      · next e =>
        subst e
        rw [if_pos rfl, if_pos (by rw [h.size]; exact hd)]
        exact ⟨x, rfl, hr v hv⟩
      · next e => rw [if_neg (fun e' => e e'.symm)]; exact h.slot t v hv
    · cases hp

theorem eval_ok {a : AAct} {A : Act} (h : SR P η σ w) (ht : TR P η a A) (x : Operand) (v : AV) (hv : a.eval x = some v) : VR η v (A.eval x) := by
  cases x with
  | tmp t =>
    obtain ⟨y, hy, hr⟩ := ht.slot t v hv
    simp only [Act.eval]
    rw [Array.getD_eq_getD_getElem?, hy]; exact hr
  | const c => exact ofVal_VR _ _ _ hv
  | global g =>
    simp only [AAct.eval] at hv
    split at hv
    · next hg =>
      cases hv
      rw [ht.gn] at hg
      obtain ⟨sz, es, h1⟩ := h.glob g (Nat.le_of_lt hg)
      simp only [VR, Act.eval]
      exact ⟨_, h1, by simp⟩
    · cases hv
  | func f =>
    simp only [AAct.eval, Option.some.injEq] at hv; subst hv
    simp only [VR, Act.eval]
    exact ⟨[], [], rfl, by simp [VRs], by simp [VRs]⟩

def OpRes (P : Program) (η : Env) (σ : ASt) (w : World) (r : Option AV) (σ' : ASt) (s : Sem Next) : Prop :=
  ∃ nx w' η', s.run P w = .ok nx w' ∧ St P η σ w η' σ' w' ∧ (match r with | some v => ∃ x, nx = .value x ∧ VR η' v x | none => nx = .skip)

theorem opV {r : AV} {s : Sem Value} (h : ∃ y w' η', s.run P w = .ok y w' ∧ St P η σ w η' σ' w' ∧ VR η' r y) : OpRes P η σ w (some r) σ' (do pure (.value (← s))) := by
  obtain ⟨y, w', η', h1, h2, h3⟩ := h
  exact ⟨.value y, w', η', by simp only [Sem.run_bind, h1, Result.andThen_ok, Sem.run_pure], h2, y, rfl, h3⟩
theorem opU {s : Sem Unit} (h : ∃ w' η', s.run P w = .ok () w' ∧ St P η σ w η' σ' w') : OpRes P η σ w none σ' (do s; pure .skip) := by
  obtain ⟨w', η', h1, h2⟩ := h
  exact ⟨.skip, w', η', by simp only [Sem.run_bind, h1, Result.andThen_ok, Sem.run_pure], h2, rfl⟩
theorem pureV {r : AV} {s : Sem Value} (h : SR P η σ w) (hs : ∃ y, s.run P w = .ok y w ∧ VR η r y) : ∃ y w' η', s.run P w = .ok y w' ∧ St P η σ w η' σ w' ∧ VR η' r y := by
  obtain ⟨y, h1, h2⟩ := hs
  exact ⟨y, w, η, h1, St.refl h, h2⟩

theorem retV_some {v : Option AV} {r : Option AV} (h : retV σ v = some (r, σ')) : ∃ u, v = some u ∧ r = some u ∧ σ' = σ := by
  simp only [retV, Option.map_eq_some_iff, Prod.mk.injEq] at h
  obtain ⟨u, h1, h2, h3⟩ := h
  exact ⟨u, h1, h2.symm, h3.symm⟩
theorem retVS_some {v : Option (AV × ASt)} {r : Option AV} (h : retVS v = some (r, σ')) : ∃ u, v = some (u, σ') ∧ r = some u := by
  simp only [retVS, Option.map_eq_some_iff, Prod.exists, Prod.mk.injEq] at h
  obtain ⟨u, s, h1, h2, h3⟩ := h
  subst h3
  exact ⟨u, h1, h2.symm⟩
theorem retS_some {v : Option ASt} {r : Option AV} (h : retS v = some (r, σ')) : v = some σ' ∧ r = none := by
  simp only [retS, Option.map_eq_some_iff, Prod.mk.injEq] at h
  obtain ⟨s, h1, h2, h3⟩ := h
  subst h3
  exact ⟨h1, h2.symm⟩

theorem asBool_ok {c : Value} {t : Bool} (h : VR η (.b t) c) : (asBool c).run P w = .ok t w := by
  simp only [VR] at h; subst h; rfl

theorem arr1 {α : Type} {ts : Array α} {a : α} (h : ts.toList = [a]) : ts = #[a] := by
  cases ts; simp at h; subst h; rfl

/-- The built-in functions. -/
theorem clear_ok (h : SR P η σ w) {ts : Array TypeId} {ty t : TypeId} {x v : AV} {u : Value} (ht : ts[0]? = some t) (hs : aClear P t x σ = some (v, σ')) (hu : VR η x u) :
    ∃ y w' η', (Builtin.clear_ ts ty #[u]).run P w = .ok y w' ∧ St P η σ w η' σ' w' ∧ VR η' v y := by
  have hun : ∀ η' : Env, VR η' (.tup []) (.tuple #[]) := fun η' => by simp only [VR]; exact ⟨[], rfl, by simp [VRs]⟩
  unfold aClear at hs
  split at hs
  · next e hut =>
    cases hs
    simp only [VR] at hu; subst hu
    exact ⟨_, w, η, by simp only [Builtin.clear_, ht, List.getElem?_toArray, List.getElem?_cons_zero, Sem.run_bind, run_under hut, Result.andThen_ok, Sem.run_pure], St.refl h, hun _⟩
  · next e hut =>
    cases hs
    simp only [VR] at hu
    rcases hu with ⟨_, pa, rfl⟩ | ⟨bl, off, c, xs, sz, rfl, _⟩
    · exact ⟨_, w, η, by cases pa <;> simp only [Builtin.clear_, ht, List.getElem?_toArray, List.getElem?_cons_zero, Sem.run_bind, run_under hut, Result.andThen_ok, Sem.run_pure], St.refl h, hun _⟩
    · exact ⟨_, w, η, by simp only [Builtin.clear_, ht, List.getElem?_toArray, List.getElem?_cons_zero, Sem.run_bind, run_under hut, Result.andThen_ok, Sem.run_pure, List.length_nil], St.refl h, hun _⟩
  · next e id off n cap hut =>
    simp only [VR] at hu
    obtain ⟨q, hq, _, rfl⟩ := hu
    split at hs
    · next h0 =>
      cases hs; subst h0
      exact ⟨_, w, η, by simp only [Builtin.clear_, ht, List.getElem?_toArray, List.getElem?_cons_zero, Sem.run_bind, run_under hut, Result.andThen_ok, Sem.run_pure], St.refl h, hun _⟩
    · next h0 =>
      split at hs
      · next z c et opn hz hg =>
        split at hs
        · next hc =>
          simp only [Option.map_eq_some_iff] at hs
          obtain ⟨c', hr, e1⟩ := hs
          cases e1
          obtain ⟨zv, hzr, hzv⟩ := run_zero hz
          have hzs := zeros_VRs (n := n) (size := z.length) (hzv η) rfl
          have hlen := (hzv η).length
          have hone : (repl n z).all AV.isAddrOrScalar = true := by
            rw [List.all_eq_true]
            intro a ha
            unfold repl at ha
            simp only [List.mem_flatten, List.mem_replicate] at ha
            obtain ⟨l, ⟨_, rfl⟩, ha⟩ := ha
            exact List.all_eq_true.1 hc.2 a ha
          obtain ⟨w', hrun, hst⟩ := write_ok h hg hc.1 hq hr hzs hone
          refine ⟨_, w', η, ?_, hst, hun _⟩
          have hzc : (Builtin.zeroCells zv.cells n) = (Array.range (n * z.length)).map (zv.cells[· % zv.cells.size]!) := by
            unfold Builtin.zeroCells
            rw [hlen]; simp
          obtain ⟨m, rfl⟩ : ∃ m, n = m + 1 := ⟨n - 1, by omega⟩
          simp only [Builtin.clear_, ht, List.getElem?_toArray, List.getElem?_cons_zero, Sem.run_bind, run_under hut, Result.andThen_ok, hzr]
          rw [hzc, hrun]
          rfl
        · cases hs
      · cases hs
  · next k e hut =>
    cases hs
    simp only [VR] at hu; subst hu
    exact ⟨_, w, η, by simp only [Builtin.clear_, ht, List.getElem?_toArray, List.getElem?_cons_zero, Sem.run_bind, run_under hut, Result.andThen_ok, Sem.run_pure], St.refl h, hun _⟩
  · next k e id hut =>
    split at hs
    · next es hg =>
      split at hs
      · next hl =>
        cases hs
        simp only [VR] at hu
        obtain ⟨q, hq, rfl⟩ := hu
        obtain ⟨q', hq', ms, clock, hb, hsz, _⟩ := h.obj _ _ hg rfl
        rw [hq] at hq'; cases hq'
        refine ⟨.tuple #[], setBlk w q.bl (.map #[] clock), η, ?_, St.write h hg rfl hl hq setBlk_size (fun k hk => setBlk_ne hk) rfl rfl rfl ⟨#[], clock, setBlk_at hb, rfl, by simp⟩, hun _⟩
        simp only [Builtin.clear_, ht, List.getElem?_toArray, List.getElem?_cons_zero, Sem.run_bind, run_under hut, Result.andThen_ok, getObj, Sem.run, hb, setObj_ok hb (fun _ _ _ => by simp), Sem.run_pure]
      · cases hs
    · cases hs
  · cases hs

theorem builtin_ok (h : SR P η σ w) {b : Builtin} {ts : Array TypeId} {ty : TypeId} {cs : Array Bool} {args : List AV} {vs : List Value} {r : Option AV} (hs : aBuiltin P b ts args σ = some (r, σ')) (hv : VRs η args vs) :
    OpRes P η σ w r σ' (builtin b ts ty cs ⟨vs⟩) := by
  unfold aBuiltin at hs
  split at hs
  · next x =>
    simp only [VRs] at hv
    obtain ⟨u, _, rfl, hu, rfl⟩ := hv
    split at hs
    · next t ht =>
      obtain ⟨v, h1, rfl, rfl⟩ := retV_some hs
      exact opV (pureV h (len_ok h ht h1 hu))
    · cases hs
  · next s x =>
    simp only [VRs] at hv
    obtain ⟨u, _, rfl, hu, u', _, rfl, hu', rfl⟩ := hv
    obtain ⟨v, h1, rfl⟩ := retVS_some hs
    exact opV (append_ok h h1 hu hu')
  · next s x =>
    simp only [VRs] at hv
    obtain ⟨u, _, rfl, hu, u', _, rfl, hu', rfl⟩ := hv
    obtain ⟨v, h1, rfl⟩ := retVS_some hs
    exact opV (copy_ok h h1 hu hu')
  · next x =>
    simp only [VRs] at hv
    obtain ⟨u, _, rfl, hu, rfl⟩ := hv
    split at hs
    · next t ht =>
      obtain ⟨v, h1, rfl⟩ := retVS_some hs
      exact opV (clear_ok h ht h1 hu)
    · cases hs
  · next x =>
    simp only [VRs] at hv
    obtain ⟨u, _, rfl, hu, rfl⟩ := hv
    split at hs
    · next t ht =>
      split at hs
      · next e hun =>
        obtain ⟨v, h1, rfl, rfl⟩ := retV_some hs
        cases h1
        simp only [VR] at hu; subst hu
        exact opV (pureV h ⟨.int .i64 0, by simp [Builtin.cap_, ht, run_under hun, goInt], by simp [VR]⟩)
      · next e id off n c hun =>
        obtain ⟨v, h1, rfl, rfl⟩ := retV_some hs
        cases h1
        simp only [VR] at hu
        obtain ⟨q, hq, _, rfl⟩ := hu
        exact opV (pureV h ⟨.int .i64 c, by simp [Builtin.cap_, ht, run_under hun, goInt], by simp [VR]⟩)
      · cases hs
    · cases hs
  · simp only [VRs] at hv
    obtain ⟨u, _, rfl, hu, rfl⟩ := hv
    obtain ⟨v, h1, rfl, rfl⟩ := retV_some hs
    cases h1
    simp only [VR] at hu; subst hu
    exact opV (pureV h ⟨_, sliceData_nil, by simp only [VR]⟩)
  · next id off n cap =>
    split at hs
    · cases hs
    · next hc =>
      simp only [VRs] at hv
      obtain ⟨u, _, rfl, hu, rfl⟩ := hv
      obtain ⟨v, h1, rfl, rfl⟩ := retV_some hs
      cases h1
      simp only [VR] at hu
      obtain ⟨q, hq, hle, rfl⟩ := hu
      refine opV (pureV h ⟨_, sliceData_some ?_, by simp only [VR]; exact ⟨q, hq, rfl⟩⟩)
      intro e
      rw [e] at hle
      have hn : n = 0 := by omega
      subst hn
      cases cap with
      | none => exact hc ⟨rfl, .inl rfl⟩
      | some c => simp only [Option.getD_some] at e; subst e; exact hc ⟨rfl, .inr rfl⟩
  · next x n =>
    simp only [VRs] at hv
    obtain ⟨u, _, rfl, hu, u', _, rfl, hu', rfl⟩ := hv
    simp only [VR] at hu'; subst hu'
    split at hs
    · next t it hts =>
      have := arr2 hts; subst this
      split at hs
      · next h0 =>
        subst h0
        split at hs
        · obtain ⟨v, h1, rfl, rfl⟩ := retV_some hs
          cases h1
          simp only [VR] at hu; subst hu
          exact opV (pureV h ⟨_, unsafeString_zero, by simp only [VR]⟩)
        · obtain ⟨v, h1, rfl, rfl⟩ := retV_some hs
          cases h1
          simp only [VR] at hu
          obtain ⟨q, hq, rfl⟩ := hu
          exact opV (pureV h ⟨_, unsafeString_zero, by simp only [VR]⟩)
        · cases hs
      · split at hs
        · next id off =>
          split at hs
          · next e c et opn hut hg =>
            split at hs
            · next hc =>
              obtain ⟨rfl, c1, c2, c3, c4, c5⟩ := hc
              split at hs
              · next r' hr =>
                split at hs
                · next b hb =>
                  cases hs
                  simp only [VR] at hu
                  obtain ⟨q, hq, rfl⟩ := hu
                  obtain ⟨y, w', h1, h2, h3⟩ := unsafeString_ok (it := it) (ty := ty) h hut hg c1 c2 c3 c4 c5 hr hb hq
                  exact opV ⟨y, w', η, h1, h2, h3⟩
                · cases hs
              · cases hs
            · cases hs
          · cases hs
        · cases hs
    · cases hs
  · next x y =>
    simp only [VRs] at hv
    obtain ⟨u, _, rfl, hu, u', _, rfl, hu', rfl⟩ := hv
    split at hs
    · next a a' h1 h2 =>
      obtain ⟨v, h3, rfl, rfl⟩ := retV_some hs
      simp only [Option.bind_eq_some_iff] at h3
      obtain ⟨z, hz, hvz⟩ := h3
      rw [scalar_VR h1 hu, scalar_VR h2 hu']
      exact opV (pureV h ⟨z, pureRun_run hz w, ofVal_VR _ _ _ hvz⟩)
    · cases hs
  · next x y =>
    simp only [VRs] at hv
    obtain ⟨u, _, rfl, hu, u', _, rfl, hu', rfl⟩ := hv
    split at hs
    · next a a' h1 h2 =>
      obtain ⟨v, h3, rfl, rfl⟩ := retV_some hs
      simp only [Option.bind_eq_some_iff] at h3
      obtain ⟨z, hz, hvz⟩ := h3
      rw [scalar_VR h1 hu, scalar_VR h2 hu']
      exact opV (pureV h ⟨z, pureRun_run hz w, ofVal_VR _ _ _ hvz⟩)
    · cases hs
  · next x y z =>
    simp only [VRs] at hv
    obtain ⟨u, _, rfl, hu, u', _, rfl, hu', u'', _, rfl, hu'', rfl⟩ := hv
    split at hs
    · next a a' a'' h1 h2 h4 =>
      obtain ⟨v, h3, rfl, rfl⟩ := retV_some hs
      simp only [Option.bind_eq_some_iff] at h3
      obtain ⟨z, hz, hvz⟩ := h3
      rw [scalar_VR h1 hu, scalar_VR h2 hu', scalar_VR h4 hu'']
      exact opV (pureV h ⟨z, pureRun_run hz w, ofVal_VR _ _ _ hvz⟩)
    · cases hs
  · cases hs

end
end Go.Abs

/-! # AbsSym7 -/
namespace Go.Abs
noncomputable section
variable [TabsOf]
set_option linter.unusedSectionVars false
set_option linter.unusedVariables false
set_option linter.unusedSimpArgs false
variable {P : Program} {η : Env} {σ σ' : ASt} {w : World}

/-! ### strings.Builder's string, and the builtins -/
theorem unsafeString_z {pt it ty : TypeId} (p : Option Addr) : (Builtin.unsafeString_ #[pt, it] ty #[.pointer p, .int .i64 0]).run P w = .ok (.string ⟨⟨[]⟩⟩) w := unsafeString_zero

theorem symBuiltin_ok (h : SR P η σ w) {b : Builtin} {ts : Array TypeId} {ty : TypeId} {cs : Array Bool} {args : List AV} {vs : List Value} {r : Option AV} (hs : symBuiltin P b ts args σ = some (r, σ')) (hv : VRs η args vs) :
    OpRes P η σ w r σ' (builtin b ts ty cs ⟨vs⟩) := by
  unfold symBuiltin at hs
  have mm : ∀ (big : Bool) {x y : AV} {m n : Nat} {v : AV} {u u' : Value}, nodeOf x = some m → nodeOf y = some n → mkN (.mm big m n) = some v → VR η x u → VR η y u' → ∃ k a b', u = .int k a ∧ u' = .int k b' ∧ VR η v (.int k (if big then (if a < b' then b' else a) else (if b' < a then b' else a))) := by
    intro big x y m n v u u' hm hn hmk hu hu'
    obtain ⟨g1, a1, a2, a3⟩ := nodeOf_ok hm hu
    obtain ⟨g2, b1, b2, b3⟩ := nodeOf_ok hn hu'
    obtain ⟨_, g, _, c2, c3⟩ := mkN_ok (η := η) hmk
    simp only [Nd.den, a1, b1] at c2
    split at c2
    · next k i k' j e1 e2 =>
      cases e1; cases e2
      split at c2
      · next hk =>
        subst hk; cases c2
        simp only [GR] at a3 b3
        exact ⟨k, i, j, a3, b3, c3 _ rfl (by simp only [GR])⟩
      · cases c2
    · cases c2
  split at hs
  · next x =>
    simp only [VRs] at hv
    obtain ⟨u, _, rfl, hu, rfl⟩ := hv
    split at hs
    · next t ht =>
      obtain ⟨v, h1, e⟩ := Option.map_eq_some_iff.1 hs
      cases e
      exact opV (pureV h (symLen_ok ht h1 hu))
    · cases hs
  · next s x =>
    simp only [VRs] at hv
    obtain ⟨u, _, rfl, hu, u', _, rfl, hu', rfl⟩ := hv
    obtain ⟨v, h1, e⟩ := Option.map_eq_some_iff.1 hs
    cases e
    exact opV (symAppend_ok h h1 hu hu')
  · next x y =>
    simp only [VRs] at hv
    obtain ⟨u, _, rfl, hu, u', _, rfl, hu', rfl⟩ := hv
    split at hs
    · next m n hm hn =>
      obtain ⟨v, h1, e⟩ := Option.map_eq_some_iff.1 hs
      cases e
      obtain ⟨k, a, b', rfl, rfl, h2⟩ := mm false hm hn h1 hu hu'
      refine opV (pureV h ⟨_, ?_, h2⟩)
      simp [Builtin.min_, Builtin.min2]
    · cases hs
  · next x y =>
    simp only [VRs] at hv
    obtain ⟨u, _, rfl, hu, u', _, rfl, hu', rfl⟩ := hv
    split at hs
    · next m n hm hn =>
      obtain ⟨v, h1, e⟩ := Option.map_eq_some_iff.1 hs
      cases e
      obtain ⟨k, a, b', rfl, rfl, h2⟩ := mm true hm hn h1 hu hu'
      refine opV (pureV h ⟨_, ?_, h2⟩)
      simp [Builtin.max_, Builtin.max2]
    · cases hs
  · next id n =>
    split at hs
    · next m et hg =>
      split at hs
      · next hsl =>
        cases hs
        simp only [VRs] at hv
        obtain ⟨u, _, rfl, hu, rfl⟩ := hv
        simp only [VR] at hu
        obtain ⟨xs, k1, hu⟩ := hu
        rcases hu with ⟨q, hq, hle, rfl⟩ | ⟨hgh, rfl, rfl⟩
        · have hor := h.at hg hq
          have hpos := hor.vecPos
          obtain ⟨_, _, _, _, hes, _⟩ := hor.ofVec
          have hcap : q.sz / q.es ≠ 0 := by
            have := Nat.div_pos hpos hes
            omega
          exact opV (pureV h ⟨_, sliceData_some hcap, by simp only [VR]; exact ⟨xs, _, k1, rfl, fun _ => ⟨q, hq, rfl⟩⟩⟩)
        · exact opV (pureV h ⟨_, sliceData_nil, by simp only [VR]; exact ⟨[], _, k1, rfl, fun hn => absurd rfl hn⟩⟩)
      · cases hs
    · cases hs
  · next id n k =>
    split at hs
    · next t it hts =>
      have := arr2 hts; subst this
      split at hs
      · next e m et f hut hg =>
        split at hs
        · next hc =>
          obtain ⟨rfl, c1, c2, c3⟩ := hc
          split at hs
          · next n' hk =>
            split at hs
            · next hsl =>
              rw [Bool.and_eq_true] at hsl
              obtain ⟨v, hm, e⟩ := Option.map_eq_some_iff.1 hs
              cases e
              simp only [VRs] at hv
              obtain ⟨u, _, rfl, hu, u', _, rfl, hu', rfl⟩ := hv
              simp only [VR] at hu hu'
              obtain ⟨ys, p, k1, rfl, hp⟩ := hu
              obtain ⟨gk, j1, _, j3⟩ := hu'
              obtain ⟨gk', j4, j5⟩ := TabsOf.nodeOk k _ hk (by simp)
              rw [j1] at j4; cases j4
              obtain ⟨nn, gs, b1, b2, b3⟩ := mkN_ok (η := η) hm
              simp only [Nd.den] at b2
              split at b2
              · next xs hv =>
               split at b2
               · next h48 =>
                obtain ⟨b, hb, rfl⟩ := Option.map_eq_some_iff.1 b2
                simp only [Nd.den] at j5
                split at j5
                · next zs hz =>
                  cases j5
                  have hl1 := sameLen_ok 100 hsl.1 hv k1
                  have hl2 := sameLen_ok 100 hsl.2 hv hz
                  simp only [GR] at j3
                  subst j3
                  have fin : ∀ {η' : Env} (y : Value), VR η' (.s b) y → VR η' v y := by
                    intro η' y hy
                    obtain ⟨_, g2, _, d2, d3⟩ := mkN_ok (η := η') hm
                    simp only [Nd.den, hv, if_pos h48, hb, Option.map_some, Option.some.injEq] at d2
                    subst d2
                    exact d3 y rfl ((GR_VR _ _).2 hy)
                  by_cases hx0 : xs = []
                  · subst hx0
                    have hz0 : zs.length = 0 := hl2.symm
                    have hb0 : b = [] := by simpa [bytesG] using hb.symm
                    subst hb0
                    rw [hz0]
                    refine opV ⟨.string ⟨⟨[]⟩⟩, w, η, unsafeString_z p, (St.refl h).killR id, fin _ (by simp only [VR])⟩
                  · have hy0 : ys ≠ [] := by intro e; rw [e] at hl1; exact hx0 (List.eq_nil_of_length_eq_zero hl1)
                    obtain ⟨q, hq, rfl⟩ := hp hy0
                    obtain ⟨xs', i1, i2, i3, i4, i5, i6, i7, hS⟩ := unvec_ok h hg hq
                    rw [hv] at i1; cases i1
                    have hcg : cellsG xs = gvAVs xs := by unfold cellsG; rw [bytesG_cells hb]
                    have hpos : 0 < xs.length := List.length_pos_iff.2 hx0
                    have htk : takeN (cellsG xs) 0 ((xs.length : Nat) : Int).toNat = some (gvAVs xs) := by
                      rw [hcg]; unfold takeN
                      rw [List.drop_zero, List.take_of_length_le (by rw [gvAVs_length]; simp), if_pos (by rw [gvAVs_length]; simp)]
                    have hfit : xs.length < 2 ^ 62 := by omega
                    obtain ⟨y, w', r1, r2, r3⟩ := unsafeString_ok (it := it) (ty := ty) (off := 0) (n := xs.length) hS hut unvec_get c1 c2 (by omega) (by omega) c3 htk (bytesG_of hb) hq
                    rw [← hl2]
                    refine opV ⟨y, w', η, by simpa using r1, ?_, fin _ r3⟩
                    refine ((unvec_left hg r2).killR id).sub (fun k o hk => ?_) (Nat.le_refl _) rfl
                    rw [ASt.get_kill] at hk ⊢
                    split at hk
                    · cases hk
                    · next e1 =>
                      rw [if_neg e1]
                      unfold unvec
                      rw [ASt.get_put, if_neg e1, ASt.get_put, if_neg e1]; exact hk
                · cases j5
               · cases b2
              · cases b2
            · cases hs
          · cases hs
        · cases hs
      · cases hs
    · cases hs
  · cases hs
end
end Go.Abs

/-! # AbsStep2 -/
namespace Go.Abs
noncomputable section
variable [TabsOf]
set_option linter.unusedSectionVars false
set_option linter.unusedVariables false
set_option linter.unusedSimpArgs false
variable {P : Program} {η : Env} {σ σ' : ASt} {w : World}

/-- A call by number: what the model does, whether the function has a body or stands in the model. -/
def CallN (P : Program) (f : FuncId) (args : Array Value) (w : World) (R : Value → World → Prop) : Prop :=
  (∃ v w', (callFunc f args).run P w = .ok (.value v) w' ∧ R v w') ∨
  ((callFunc f args).run P w = .ok (.enter f args) w ∧ Calls P f args w fun e w' => ∃ v, e = .returned v ∧ R v w')

def CallOk (P : Program) (call : Caller) : Prop := ∀ f args σ r σ', call f args σ = some (r, σ') → ∀ η w vs, SR P η σ w → VRs η args vs →
  CallN P f ⟨vs⟩ w fun v w' => ∃ η', St P η σ w η' σ' w' ∧ VR η' r v

def isCall : Op → Bool
  | .call { callee := .value _, .. } => true
  | .call { callee := .invoke _ _, .. } => true
  | _ => false

theorem makeFunc_ok {f : FuncId} {first caps : List AV} {us vs : List Value} (h1 : VRs η first us) (h2 : VRs η caps vs) : ∃ y, (Instr.makeFunc (.func f) ⟨us⟩ ⟨vs⟩).run P w = .ok y w ∧ VR η (.fn f first caps) y :=
  ⟨_, rfl, by simp only [VR]; exact ⟨us, vs, rfl, h1, h2⟩⟩

theorem optEval_ok {ev : Operand → Option AV} {ρ : Operand → Value} (hρ : ∀ x a, ev x = some a → VR η a (ρ x)) {o : Option Operand} {r : Option AV} (h : optEval ev o = some r) : OptVR η r (o.map ρ) := by
  cases o with
  | none => simp [optEval] at h; subst h; trivial
  | some x =>
    simp only [optEval, Option.map_eq_some_iff] at h
    obtain ⟨a, ha, rfl⟩ := h
    exact hρ _ _ ha

theorem mapToList {α β : Type} (a : Array α) (f : α → β) : a.map f = ⟨a.toList.map f⟩ := by
  apply Array.ext'; simp

set_option maxHeartbeats 1000000 in
theorem op_ok (h : SR P η σ w) {call : Caller} {o : Oper} {ev : Operand → Option AV} {ρ : Operand → Value} (hρ : ∀ x a, ev x = some a → VR η a (ρ x)) (hc : isCall o.op = false) {r : Option AV}
    (hs : aOp P call o ev σ = some (r, σ')) : OpRes P η σ w r σ' (execOp ρ o) := by
  unfold aOp at hs
  unfold execOp
  split at hs
  · next x he => rw [he]; obtain ⟨v, h1, rfl, rfl⟩ := retV_some hs; exact ⟨_, w, η, rfl, St.refl h, _, rfl, hρ _ _ h1⟩
  · next x he => rw [he]; obtain ⟨v, h1, rfl, rfl⟩ := retV_some hs; exact ⟨_, w, η, rfl, St.refl h, _, rfl, hρ _ _ h1⟩
  · next c a b he =>
    rw [he]
    split at hs
    · next t hcv =>
      obtain ⟨vd, hvd, hcv⟩ := dB_ok hcv
      obtain ⟨v, h1, rfl, rfl⟩ := retV_some hs
      refine ⟨.value (if t then ρ a else ρ b), w, η, ?_, St.refl h, _, rfl, ?_⟩
      · simp only [Sem.run_bind, asBool_ok (hcv _ _ (hρ _ _ hvd)), Result.andThen_ok, Sem.run_pure]
      · cases t
        · exact hρ _ _ h1
        · exact hρ _ _ h1
    · cases hs
  · next t he =>
    rw [he]
    simp only [Option.map_eq_some_iff] at hs
    obtain ⟨z, hz, e⟩ := hs
    cases e
    exact opV (alloc_ok h hz)
  · next t x he =>
    rw [he]
    simp only [Option.map_eq_some_iff] at hs
    obtain ⟨z, hz, e⟩ := hs
    cases e
    exact opV (box_ok h (hρ _ _ hz))
  · next t parts he =>
    rw [he]
    split at hs
    · next ps hps =>
      obtain ⟨v, h1, rfl, rfl⟩ := retV_some hs
      exact opV (pureV h (build_ok h1 (by rw [mapToList]; exact evalParts_ok hρ hps)))
    · cases hs
  · next t len parts he =>
    rw [he]
    split at hs
    · next e size bytes z ps hi hps =>
      split at hs
      · cases hs
      · next hlen =>
        split at hs
        · next cs hf =>
          have e1 := Option.some.inj hs
          refine litSl_ok (t := t) (qs := parts.map fun (i, x) => (i, ρ x)) (fun v τ e2 hr => ?_) h hi hlen hf (by rw [mapToList]; exact evalParts_ok hρ hps)
          rw [e2] at e1
          cases e1
          exact opV hr
        · cases hs
    · cases hs
  · next t a he =>
    rw [he]
    split at hs
    · next av hav =>
      obtain ⟨v, h1, rfl, rfl⟩ := retV_some hs
      rcases orT_some h1 with h1 | h1
      · exact opV (pureV h (load_ok h h1 (hρ _ _ hav)))
      · exact opV (pureV h (symLoad_ok h h1 (hρ _ _ hav)))
    · cases hs
  · next t a x he =>
    rw [he]
    split at hs
    · next av xv hav hxv =>
      obtain ⟨h1, rfl⟩ := retS_some hs
      rcases orT_some h1 with h1 | h1
      · obtain ⟨w', h2, h3⟩ := store_ok h h1 (hρ _ _ hav) (hρ _ _ hxv)
        exact opU ⟨w', η, h2, h3⟩
      · obtain ⟨w', h2, h3⟩ := symStore_ok h h1 (hρ _ _ hav) (hρ _ _ hxv)
        exact opU ⟨w', η, h2, h3⟩
    · cases hs
  · next x he =>
    rw [he]
    split at hs
    · next id off hxv =>
      obtain ⟨v, h1, rfl, rfl⟩ := retV_some hs
      cases h1
      have hv := hρ _ _ hxv
      simp only [VR] at hv
      obtain ⟨q, hq, hv⟩ := hv
      exact ⟨.value (ρ x), w, η, by simp only [hv]; rfl, St.refl h, _, rfl, hρ _ _ hxv⟩
    · next b off hxv =>
      obtain ⟨v, h1, rfl, rfl⟩ := retV_some hs
      cases h1
      have hv := hρ _ _ hxv
      simp only [VR] at hv
      obtain ⟨bl, base, cs, elem, fr, y, _, _, hv, _⟩ := hv
      exact ⟨.value (ρ x), w, η, by simp only [hv]; rfl, St.refl h, _, rfl, hρ _ _ hxv⟩
    · next m off hxv =>
      obtain ⟨v, h1, rfl, rfl⟩ := retV_some hs
      cases h1
      have hv := hρ _ _ hxv
      simp only [VR] at hv
      obtain ⟨g, bl, base, cs, elem, fr, y, _, _, _, hv, _⟩ := hv
      exact ⟨.value (ρ x), w, η, by simp only [hv]; rfl, St.refl h, _, rfl, hρ _ _ hxv⟩
    · next id m off hxv =>
      obtain ⟨v, h1, rfl, rfl⟩ := retV_some hs
      cases h1
      have hv := hρ _ _ hxv
      simp only [VR] at hv
      obtain ⟨q, kk, i, _, _, hv⟩ := hv
      exact ⟨.value (ρ x), w, η, by simp only [hv]; rfl, St.refl h, _, rfl, hρ _ _ hxv⟩
    · next f fs cs hxv =>
      obtain ⟨v, h1, rfl, rfl⟩ := retV_some hs
      cases h1
      have hv := hρ _ _ hxv
      simp only [VR] at hv
      obtain ⟨us, vs, hv, _⟩ := hv
      exact ⟨.value (ρ x), w, η, by simp only [hv]; rfl, St.refl h, _, rfl, hρ _ _ hxv⟩
    · cases hs
  · next op t x y _ he =>
    rw [he]
    split at hs
    · next a b ha hb =>
      obtain ⟨v, h1, rfl, rfl⟩ := retV_some hs
      rcases orT_some h1 with h1 | h1
      · exact opV (pureV h (bin_ok h h1 (hρ _ _ ha) (hρ _ _ hb)))
      · exact opV (pureV h (symBin_ok h1 (hρ _ _ ha) (hρ _ _ hb)))
    · cases hs
  · next op t x he =>
    rw [he]
    split at hs
    · next a ha =>
      split at hs
      · next u hu =>
        obtain ⟨v, h1, rfl, rfl⟩ := retV_some hs
        simp only [Option.bind_eq_some_iff] at h1
        obtain ⟨z, hz, hvz⟩ := h1
        have hrun : (Op.unary op (ρ x)).run P w = .ok z w := by rw [scalar_VR hu (hρ _ _ ha)]; exact pureRun_run hz w
        exact opV (pureV h ⟨z, hrun, ofVal_VR _ _ _ hvz⟩)
      · obtain ⟨v, h1, rfl, rfl⟩ := retV_some hs
        exact opV (pureV h (symUn_ok h1 (hρ _ _ ha)))
    · cases hs
  · next src dst x he =>
    rw [he]
    split at hs
    · next a ha =>
      obtain ⟨v, h1, rfl⟩ := retVS_some hs
      rcases orT_some h1 with h1 | h1
      · exact opV (convert_ok h h1 (hρ _ _ ha))
      · exact opV (symConvert_ok h h1 (hρ _ _ ha))
    · cases hs
  · next t x he =>
    rw [he]
    split at hs
    · next a ha hi =>
      obtain ⟨v, h1, rfl, rfl⟩ := retV_some hs
      cases h1
      exact opV (pureV h (makeIface_ok hi (hρ _ _ ha)))
    · cases hs
  · next f first caps he =>
    rw [he]
    split at hs
    · next fs cs hfs hcs =>
      obtain ⟨v, h1, rfl, rfl⟩ := retV_some hs
      cases h1
      simp only [mapToList]
      exact opV (pureV h (makeFunc_ok (evals_ok hρ hfs) (evals_ok hρ hcs)))
    · cases hs
  · next t r' he =>
    rw [he]
    split at hs
    · cases hs
      exact opV (makeMap_ok h (.inl rfl))
    · next x =>
      split at hs
      · next a kt et ha hu =>
        split at hs
        · next hm =>
          cases hs
          obtain ⟨k, n, hk⟩ := mapArg_ok hm (hρ _ _ ha)
          exact opV (makeMap_ok h (.inr ⟨k, n, kt, et, by simp [hk], hu⟩))
        · cases hs
      · cases hs
  · next t l c he =>
    rw [he]
    split at hs
    · next a b ha hb =>
      obtain ⟨v, h1, rfl⟩ := retVS_some hs
      rcases orT_some h1 with h1 | h1
      · exact opV (makeSlice_ok h h1 (hρ _ _ ha) (hρ _ _ hb))
      · exact opV (symMakeSlice_ok h h1 (hρ _ _ ha) (hρ _ _ hb))
    · cases hs
  · next t x lo hi he =>
    rw [he]
    split at hs
    · next a lo' hi' ha hlo hhi =>
      rcases orT_some hs with hs | hs
      · obtain ⟨v, h1, rfl, rfl⟩ := retV_some hs
        rcases orT_some h1 with h1 | h1
        · exact opV (pureV h (slice_ok h h1 (hρ _ _ ha) (optEval_ok hρ hlo) (optEval_ok hρ hhi)))
        · exact opV (pureV h (symSlice_ok h h1 (hρ _ _ ha) (optEval_ok hρ hlo) (optEval_ok hρ hhi)))
      · obtain ⟨v, h1, rfl⟩ := retVS_some hs
        exact opV (symSliceS_ok h h1 (hρ _ _ ha) (optEval_ok hρ hlo) (optEval_ok hρ hhi))
    · cases hs
  · next t x f he =>
    rw [he]
    split at hs
    · next a ha =>
      obtain ⟨v, h1, rfl, rfl⟩ := retV_some hs
      rcases orT_some h1 with h1 | h1
      · exact opV (pureV h (fieldAddr_ok h1 (hρ _ _ ha)))
      · exact opV (pureV h (symFieldAddr_ok h1 (hρ _ _ ha)))
    · cases hs
  · next t x f he =>
    rw [he]
    split at hs
    · next a ha =>
      obtain ⟨v, h1, rfl, rfl⟩ := retV_some hs
      exact opV (pureV h (field_ok h1 (hρ _ _ ha)))
    · cases hs
  · next t x ix he =>
    rw [he]
    split at hs
    · next a k ha hk =>
      obtain ⟨v, h1, rfl, rfl⟩ := retV_some hs
      rcases orT_some h1 with h1 | h1
      · exact opV (pureV h (indexAddr_ok h1 (hρ _ _ ha) (hρ _ _ hk)))
      · exact opV (pureV h (symIndexAddr_ok h h1 (hρ _ _ ha) (hρ _ _ hk)))
    · cases hs
  · next t x ix he =>
    rw [he]
    split at hs
    · next a k ha hk =>
      obtain ⟨v, h1, rfl, rfl⟩ := retV_some hs
      rcases orT_some h1 with h1 | h1
      · exact opV (pureV h (index_ok h1 (hρ _ _ ha) (hρ _ _ hk)))
      · exact opV (pureV h (symIndex_ok h1 (hρ _ _ ha) (hρ _ _ hk)))
    · cases hs
  · next t m k ok he =>
    rw [he]
    split at hs
    · next a b ha hb =>
      obtain ⟨v, h1, rfl, rfl⟩ := retV_some hs
      rcases orT_some h1 with h1 | h1
      · exact opV (pureV h (lookup_ok h h1 (hρ _ _ ha) (hρ _ _ hb)))
      · exact opV (pureV h (symLookup_ok h h1 (hρ _ _ ha) (hρ _ _ hb)))
    · cases hs
  · next t m k x he =>
    rw [he]
    split at hs
    · next a b c ha hb hc' =>
      obtain ⟨h1, rfl⟩ := retS_some hs
      rcases orT_some h1 with h1 | h1
      · obtain ⟨w', h2, h3⟩ := mapUpdate_ok h h1 (hρ _ _ ha) (hρ _ _ hb) (hρ _ _ hc')
        exact opU ⟨w', η, h2, h3⟩
      · obtain ⟨w', h2, h3⟩ := symMapUpdate_ok h h1 (hρ _ _ ha) (hρ _ _ hb) (hρ _ _ hc')
        exact opU ⟨w', η, h2, h3⟩
    · cases hs
  · next t m k x he =>
    rw [he]
    split at hs
    · next a b c ha hb hc' =>
      obtain ⟨h1, rfl⟩ := retS_some hs
      rcases orT_some h1 with h1 | h1
      · obtain ⟨w', h2, h3⟩ := mapUpdate_ok h h1 (hρ _ _ ha) (hρ _ _ hb) (hρ _ _ hc')
        exact opU ⟨w', η, h2, h3⟩
      · obtain ⟨w', h2, h3⟩ := symMapUpdate_ok h h1 (hρ _ _ ha) (hρ _ _ hb) (hρ _ _ hc')
        exact opU ⟨w', η, h2, h3⟩
    · cases hs
  · next t x he =>
    rw [he]
    split at hs
    · next s hu hx =>
      cases hs
      have hv := hρ _ _ hx
      simp only [VR] at hv
      simp only [hv]
      exact opV (range_ok h hu)
    · next k e hu hx =>
      cases hs
      have hv := hρ _ _ hx
      simp only [VR] at hv
      simp only [hv]
      exact opV (rangeM_nil h hu)
    · next k e id hu hx =>
      split at hs
      · next es hg =>
        cases hs
        exact opV (rangeM_some h hu hg (hρ _ _ hx))
      · cases hs
    · cases hs
  · next it he =>
    rw [he]
    split at hs
    · next a ha =>
      obtain ⟨v, h1, rfl⟩ := retVS_some hs
      obtain ⟨y, w', h2, h3, h4⟩ := next_ok (ty := o.type) h h1 (hρ _ _ ha)
      exact opV ⟨y, w', η, h2, h3, h4⟩
    · cases hs
  · next it he =>
    rw [he]
    have hov : VR η (.tup [.b false]) (.tuple #[.bool false]) := by simp only [VR]; exact ⟨[_], rfl, VRs.cons (by simp only [VR]) (by simp [VRs])⟩
    split at hs
    · next id ha =>
      split at hs
      · next hg =>
        cases hs
        exact opV (pureV h ⟨_, nextM_nil (ty := o.type) h hg (hρ _ _ ha), hov⟩)
      · next m hg =>
        split at hs
        · next hm =>
          cases hs
          exact opV (pureV h ⟨_, nextM_some (ty := o.type) h hg hm (hρ _ _ ha), hov⟩)
        · cases hs
      · cases hs
    · cases hs
  · next x xt t ok he =>
    rw [he]
    split at hs
    · next a ha =>
      obtain ⟨v, h1, rfl, rfl⟩ := retV_some hs
      exact opV (pureV h (typeAssert_ok h1 (hρ _ _ ha)))
    · cases hs
  · next x k he =>
    rw [he]
    split at hs
    · next l ha =>
      obtain ⟨v, h1, rfl, rfl⟩ := retV_some hs
      exact opV (pureV h (extract_ok h1 (hρ _ _ ha)))
    · cases hs
  · next c he =>
    rw [he]
    split at hs
    · next args hargs =>
      split at hs
      · next b hb =>
        have hv := evals_ok hρ hargs
        have hs : aBuiltin P b c.argTypes args σ = some (r, σ') ∨ symBuiltin P b c.argTypes args σ = some (r, σ') := by
          cases hsf : symFirst b args with
          | true => rw [hsf, cond_true] at hs; exact (orT_some hs).symm
          | false => rw [hsf, cond_false] at hs; exact orT_some hs
        rcases hs with hs | hs
        · have hres := builtin_ok (cs := c.args.map fun | .const _ => true | _ => false) (ty := o.type) h hs hv
          simp only [resolve, hb, mapToList, pure_bind, invoke]
          rw [mapToList] at hres
          exact hres
        · have hres := symBuiltin_ok (cs := c.args.map fun | .const _ => true | _ => false) (ty := o.type) h hs hv
          simp only [resolve, hb, mapToList, pure_bind, invoke]
          rw [mapToList] at hres
          exact hres
      · next f hf =>
        rw [he] at hc
        exfalso
        obtain ⟨callee, args, at'⟩ := c
        simp only at hf
        subst hf
        simp [isCall] at hc
      · next f name hf =>
        rw [he] at hc
        exfalso
        obtain ⟨callee, args, at'⟩ := c
        simp only at hf
        subst hf
        simp [isCall] at hc
    · cases hs
  · cases hs

end
end Go.Abs

/-! # AbsCode -/
namespace Go.Abs
noncomputable section
variable [TabsOf]
set_option linter.unusedSectionVars false
set_option linter.unusedVariables false
set_option linter.unusedSimpArgs false
variable {P : Program} {η : Env} {σ σ' : ASt} {w : World}

theorem VRs.toArr {l : List AV} {vs : List Value} (h : VRs η l vs) : VRs η l vs := h

theorem cons_arr (r : Value) (l : List Value) : (#[r] ++ (⟨l⟩ : Array Value)) = ⟨r :: l⟩ := by apply Array.ext'; simp
theorem invoke_method (name : String) (r : Value) (l : List Value) : invoke (.fn (.method name) #[]) (#[r] ++ (⟨l⟩ : Array Value)) = callMethod r name ⟨l⟩ := by
  rw [cons_arr]
  have e1 : (⟨r :: l⟩ : Array Value)[0]? = some r := by simp
  have e2 : (⟨r :: l⟩ : Array Value).extract 1 (⟨r :: l⟩ : Array Value).size = ⟨l⟩ := by apply Array.ext'; simp
  have : invoke (.fn (.method name) #[]) (⟨r :: l⟩ : Array Value) = (do
    let some recv := (⟨r :: l⟩ : Array Value)[0]? | stuck "call: a method without a receiver"
    callMethod recv name ((⟨r :: l⟩ : Array Value).extract 1 (⟨r :: l⟩ : Array Value).size)) := rfl
  rw [this, e1, e2]

/-- A call through an interface value: whose method it is, and with which receiver. -/
theorem method_ok (h : SR P η σ w) {name : String} {a rv : AV} {f : FuncId} {x : Value} (hs : aMethod P name σ a = some (f, rv)) (hx : VR η a x) (args : Array Value) :
    ∃ y, (callMethod x name args).run P w = (callFunc f (#[y] ++ args)).run P w ∧ VR η rv y := by
  unfold aMethod at hs
  split at hs
  · next t v =>
    simp only [VR] at hx
    obtain ⟨xv, rfl, hv⟩ := hx
    split at hs
    · next i d hi hd =>
      split at hs
      · next m hm =>
        split at hs
        · next f' ptr hp hf =>
          have hmeth : ∀ y, (receiverAt t (.val xv) ptr (some ((name.splitOn ".").getLastD name))).run P w = .ok y w →
              (callMethod (.iface t xv) name args).run P w = (callFunc f' (#[y] ++ args)).run P w := by
            intro y hr
            have hpe : m.path.isEmpty = true := by simpa using hp
            have : ∀ n : Nat, (method (n + 1) t xv name).run P w = .ok (f', y) w := by
              intro n
              simp only [method, Sem.run_bind, run_info hi, Result.andThen_ok, hm, hp, follow, Sem.run_pure, hf, hpe, if_true, hr]
            simp only [callMethod, Sem.run_bind, program, Sem.run, Result.andThen_ok]
            rw [show P.types.size + Made.depth = (P.types.size + Made.depth - 1) + 1 by simp [Made.depth], this]
            rfl
          split at hs
          · next e =>
            cases hs
            exact ⟨xv, hmeth _ (by simp only [receiverAt, Sem.run_bind, run_under hd, Result.andThen_ok, Go.Place.get, Sem.run_pure]), hv⟩
          · next e =>
            split at hs
            · next id off =>
              simp only [Option.map_eq_some_iff, Prod.mk.injEq] at hs
              obtain ⟨z, hz, rfl, rfl⟩ := hs
              obtain ⟨y, hy, hvy⟩ := load_ok h hz hv
              simp only [VR] at hv
              obtain ⟨q, hq, rfl⟩ := hv
              refine ⟨y, hmeth _ ?_, hvy⟩
              have hy' : (loadVar e ⟨q.bl, q.ba + off, none⟩).run P w = .ok y w := by simpa [Instr.loadAt, Instr.sureAddr] using hy
              have hwrap : ∀ nm : String, (Builtin.ssaWrapNilChk_ #[t] t #[.pointer (some ⟨q.bl, q.ba + off, none⟩), strVal "", strVal nm]).run P w = .ok (.pointer (some ⟨q.bl, q.ba + off, none⟩)) w := fun _ => rfl
              have has : (asAddr (.pointer (some ⟨q.bl, q.ba + off, none⟩))).run P w = .ok ⟨q.bl, q.ba + off, none⟩ w := rfl
              simp only [receiverAt, Sem.run_bind, run_under hd, Result.andThen_ok, Go.Place.get, Sem.run_pure, hwrap, has, hy']
            · cases hs
          · cases hs
          · next h1 h2 h3 =>
            cases hs
            refine ⟨xv, hmeth _ ?_, hv⟩
            simp only [receiverAt, Sem.run_bind, run_under hd, Result.andThen_ok]
            cases d <;> simp only [Go.Place.get, Sem.run_pure]
            all_goals simp_all
        · cases hs
      · cases hs
    · cases hs
  · cases hs

/-- A call as an operation. -/
theorem call_step (h : SR P η σ w) {call : Caller} (hcall : CallOk P call) {o : Oper} {a : AAct} {A : Act} (ht : TR P η a A) (hc : isCall o.op = true) {r : Option AV} {K : Act → World → Prop} {Q : Exit → Act → World → Prop}
    (hs : aOp P call o a.eval σ = some (r, σ')) (hK : ∀ v x η' w', r = some v → St P η σ w η' σ' w' → VR η' v x → K (A.put o.dst x) w') : o.wp P A w K Q := by
  have hρ : ∀ x v, a.eval x = some v → VR η v (A.eval x) := fun x v hv => eval_ok h ht x v hv
  unfold aOp at hs
  cases hop : o.op with
  | call c =>
    rw [hop] at hc hs
    simp only at hs
    split at hs
    · next args hargs =>
      obtain ⟨callee, cargs, at'⟩ := c
      cases callee with
      | builtin b => simp [isCall] at hc
      | invoke rc name =>
        simp only at hs
        split at hs
        · next f rv hf =>
          simp only [Option.bind_eq_some_iff] at hf
          obtain ⟨iv, hiv, hf⟩ := hf
          obtain ⟨u, h1, rfl⟩ := retVS_some hs
          have hav := evals_ok hρ hargs
          obtain ⟨y, hm, hy⟩ := method_ok h hf (hρ _ _ hiv) (⟨cargs.toList.map A.eval⟩)
          have hcn := hcall _ _ _ _ _ h1 η w (y :: cargs.toList.map A.eval) h (VRs.cons hy hav)
          have hexec : (execOp A.eval o).run P w = (callFunc f ⟨y :: cargs.toList.map A.eval⟩).run P w := by
            unfold execOp
            rw [hop]
            have e0 : cargs.map A.eval = ⟨cargs.toList.map A.eval⟩ := by apply Array.ext'; simp
            simp only [resolve, pure_bind, e0]
            rw [invoke_method, hm, cons_arr]
          unfold Oper.wp
          rw [hexec]
          rcases hcn with ⟨v, w', hrun, η', hst, hv⟩ | ⟨hrun, hcalls⟩
          · rw [hrun]
            exact hK u v η' w' rfl hst hv
          · rw [hrun]
            refine Calls.mono hcalls ?_
            rintro e w' ⟨v, rfl, η', hst, hv⟩
            exact hK u v η' w' rfl hst hv
        · cases hs
      | value f =>
        simp only at hs
        split at hs
        · next fn fi caps hf =>
          obtain ⟨u, h1, rfl⟩ := retVS_some hs
          have hfv := hρ _ _ hf
          simp only [VR] at hfv
          obtain ⟨us, vs, hfe, hfi, hcaps⟩ := hfv
          have hav := evals_ok hρ hargs
          have hcn := hcall _ _ _ _ _ h1 η w (us ++ cargs.toList.map A.eval ++ vs) h ((hfi.append hav).append hcaps)
          have hexec : (execOp A.eval o).run P w = (callFunc fn ⟨us ++ cargs.toList.map A.eval ++ vs⟩).run P w := by
            unfold execOp
            rw [hop]
            simp only [resolve, hfe, Deferred.ofValue, pure_bind, invoke]
            congr 2
            apply Array.ext'
            simp
          unfold Oper.wp
          rw [hexec]
          rcases hcn with ⟨v, w', hrun, η', hst, hv⟩ | ⟨hrun, hcalls⟩
          · rw [hrun]
            exact hK u v η' w' rfl hst hv
          · rw [hrun]
            refine Calls.mono hcalls ?_
            rintro e w' ⟨v, rfl, η', hst, hv⟩
            exact hK u v η' w' rfl hst hv
        · cases hs
    · cases hs
  | _ => rw [hop] at hc; simp [isCall] at hc

theorem yielded_ok {ops : Array Oper} {j : Nat} {o : Oper} {d : Nat} {a : AAct} {A : Act} {x : Bool} (ht : TR P η a A) (ho : ops[j]? = some o) (hd : o.dst = some d) (hx : dB (a.t.get d) = some (.b x)) : yielded ops A.tmps j = some x := by
  obtain ⟨vd, hx, himp⟩ := dB_ok hx
  obtain ⟨y, hy, hv⟩ := ht.slot d _ hx
  have hv := himp _ _ hv
  simp only [VR] at hv; subst hv
  simp only [yielded, ho, Option.bind_some, hd, hy]

theorem wanted_ok {o : Oper} {ops : Array Oper} {a : AAct} {A : Act} {b : Bool} (ht : TR P η a A) (hw : wantedA o ops a = some b) : Region.wanted o (yielded ops A.tmps) = b := by
  unfold wantedA at hw
  unfold Region.wanted
  split at hw
  · next hg => rw [hg]; cases hw; rfl
  · next j want hg =>
    rw [hg]
    split at hw
    · next q hq =>
      split at hw
      · next d hd =>
        split at hw
        · next x hx =>
          cases hw
          simp only [yielded_ok ht hq hd hx]
          cases x <;> cases want <;> rfl
        · next l hx =>
          cases hw
          obtain ⟨vd, hx, himp⟩ := dB_ok hx
          obtain ⟨y, hy, hv⟩ := ht.slot d _ hx
          have hv := himp _ _ hv
          simp only [VR] at hv
          obtain ⟨vs, rfl, _⟩ := hv
          simp only [yielded, hq, Option.bind_some, hd, hy]
          cases want <;> rfl
        · cases hw
      · cases hw
    · cases hw

theorem step_ok (h : SR P η σ w) {call : Caller} (hcall : CallOk P call) {ops : Array Oper} {i : Nat} {a a' : AAct} {A : Act} (ht : TR P η a A) {K : Act → World → Prop} {Q : Exit → Act → World → Prop}
    (hs : aStep P call ops i a σ = some (a', σ')) (hK : ∀ η' A' w', St P η σ w η' σ' w' → TR P η' a' A' → K A' w') : wpOp P ops Q i K A w := by
  unfold aStep at hs
  unfold wpOp
  split at hs
  · cases hs
  · next o ho =>
    rw [ho]
    simp only
    split at hs
    · cases hs
    · next hw =>
      rw [wanted_ok ht hw]
      simp only [Bool.false_eq_true, if_false]
      simp only [Option.map_eq_some_iff, Prod.mk.injEq] at hs
      obtain ⟨a1, hp, rfl, rfl⟩ := hs
      exact hK η _ w (St.refl h) (ht.put hp (by rintro u hu; cases hu; exact ⟨[], rfl, rfl⟩))
    · next hw =>
      rw [wanted_ok ht hw]
      simp only [if_true]
      split at hs
      · cases hs
      · next r σ1 hop =>
        rw [fOp_eq] at hop
        simp only [Option.map_eq_some_iff, Prod.mk.injEq] at hs
        obtain ⟨a1, hp, rfl, rfl⟩ := hs
        left
        cases hc : isCall o.op with
        | true =>
          refine call_step h hcall ht hc hop fun v x η' w' hr hst hv => ?_
          exact hK η' _ w' hst ((ht.mono hst.ext).put hp (fun u hu => by rw [hr] at hu; cases hu; exact hv))
        | false =>
          obtain ⟨nx, w', η', hrun, hst, hres⟩ := op_ok h (fun x v hv => eval_ok h ht x v hv) hc hop
          unfold Oper.wp
          rw [hrun]
          cases r with
          | none => subst hres; exact hK η' _ w' hst ((ht.mono hst.ext).put hp (by simp))
          | some v =>
            obtain ⟨x, rfl, hv⟩ := hres
            exact hK η' _ w' hst ((ht.mono hst.ext).put hp (fun u hu => by cases hu; exact hv))

theorem ops_ok {call : Caller} (hcall : CallOk P call) {ops : Array Oper} {Q : Exit → Act → World → Prop} : ∀ (l : List Nat) {η : Env} {σ : ASt} {w : World} {a a' : AAct} {A : Act}, SR P η σ w → TR P η a A →
    aOps P call ops l a σ = some (a', σ') → (∀ η' A' w', St P η σ w η' σ' w' → TR P η' a' A' → Q .normal A' w') → wpOps P ops Q l A w
  | [], η, σ, w, a, a', A, h, ht, hs, hK => by
    simp only [aOps, Option.some.injEq, Prod.mk.injEq] at hs
    obtain ⟨rfl, rfl⟩ := hs
    exact hK η A w (St.refl h) ht
  | i :: l, η, σ, w, a, a', A, h, ht, hs, hK => by
    rw [wpOps_cons]
    unfold aOps at hs
    split at hs
    · next a1 σ1 h1 =>
      refine step_ok h hcall ht h1 fun η1 A1 w1 hst ht1 => ?_
      exact ops_ok hcall l hst.rel ht1 hs fun η' A' w' hst' ht' => hK η' A' w' (hst.trans hst') ht'
    · cases hs

def AExit.toExit : AExit → Exit
  | .normal => .normal
  | .exit id => .exit id
  | .ret => .ret

def DrawOk (P : Program) (dr : Caller → Drawer) : Prop := ∀ call, CallOk P call → ∀ ops a σ a' σ', dr call ops a σ = some (a', σ') → ∀ η w A id Q, SR P η σ w → TR P η a A →
  (∀ η' A' w', St P η σ w η' σ' w' → TR P η' a' A' → Q .normal A' w') → (Code.region id ops true).wp P Q A w

/-- What a contract or a body of the model's own is good for. -/
def PrimsOk (P : Program) (pr : Prims) : Prop := ∀ f g, pr f = some g → ∀ args σ r σ', g args σ = some (r, σ') → ∀ η w vs, SR P η σ w → VRs η args vs →
  CallN P f ⟨vs⟩ w fun v w' => ∃ η', St P η σ w η' σ' w' ∧ VR η' r v

/-- No function with a body bears the name that the model answers by itself. -/
def NamesOk (P : Program) : Prop := ∀ (f : Nat) fn c, P.funcs[f]? = some fn → fn.body = some c → (fn.name == "runtime.NumGoroutine") = false

def RunOk (P : Program) (run : Code → AAct → ASt → Option (AExit × AAct × ASt)) : Prop := ∀ c a σ e a' σ', run c a σ = some (e, a', σ') → ∀ η w A Q, SR P η σ w → TR P η a A →
  (∀ η' A' w', St P η σ w η' σ' w' → TR P η' a' A' → Q e.toExit A' w') → c.wp P Q A w

theorem results_ok (h : SR P η σ w) {a : AAct} {A : Act} (ht : TR P η a A) (F : ResultVar → Sem Value) (hF1 : ∀ t, F (.tmp t) = pure (A.tmps.getD t undef)) (hF2 : ∀ a t, F (.cell a t) = (do loadVar t (← asAddr (A.tmps.getD a undef)))) :
    ∀ (rs : List ResultVar) (l : List AV), aResults P σ a rs = some l → ∃ vs, (rs.mapM F).run P w = .ok vs w ∧ VRs η l vs
  | [], l, hl => by simp only [aResults, Option.some.injEq] at hl; subst hl; exact ⟨[], rfl, by simp [VRs]⟩
  | .tmp t :: rs, l, hl => by
    unfold aResults at hl
    split at hl
    · next v r hv hr =>
      cases hl
      obtain ⟨vs, h1, h2⟩ := results_ok h ht F hF1 hF2 rs r hr
      obtain ⟨x, hx, hvx⟩ := ht.slot t v hv
      refine ⟨x :: vs, ?_, VRs.cons hvx h2⟩
      simp only [List.mapM_cons, hF1, Sem.run_bind, Sem.run_pure, Result.andThen_ok, h1]
      rw [Array.getD_eq_getD_getElem?, hx]; rfl
    · cases hl
  | .cell t ty :: rs, l, hl => by
    unfold aResults at hl
    split at hl
    · next v r hv hr =>
      cases hl
      obtain ⟨vs, h1, h2⟩ := results_ok h ht F hF1 hF2 rs r hr
      simp only [Option.bind_eq_some_iff] at hv
      obtain ⟨p, hp, hv⟩ := hv
      obtain ⟨x, hx, hvx⟩ := ht.slot t p hp
      obtain ⟨y, hy, hvy⟩ := load_ok h hv hvx
      refine ⟨y :: vs, ?_, VRs.cons hvy h2⟩
      have hxa : ∃ ad, x = .pointer (some ad) := by
        cases p <;> simp [aLoad] at hv
        · simp only [VR] at hvx
          obtain ⟨q, _, rfl⟩ := hvx
          exact ⟨_, rfl⟩
        · simp only [VR] at hvx
          obtain ⟨bl, base, cs, elem, fr, x, _, _, rfl, _⟩ := hvx
          exact ⟨_, rfl⟩
      obtain ⟨ad, rfl⟩ := hxa
      have hg : A.tmps.getD t undef = .pointer (some ad) := by rw [Array.getD_eq_getD_getElem?, hx]; rfl
      have hy' : (loadVar ty ad).run P w = .ok y w := by simpa [Instr.loadAt, Instr.sureAddr] using hy
      have hasA : (asAddr (A.tmps.getD t undef)).run P w = .ok ad w := by rw [hg]; rfl
      simp only [List.mapM_cons, hF2, Sem.run_bind, Sem.run_pure, Result.andThen_ok, h1, hasA, hy']
    · cases hl

theorem tup_ok {l : List AV} {vs : List Value} (h : VRs η l vs) : VR η (tupOf l) (if h : (⟨vs⟩ : Array Value).size = 1 then (⟨vs⟩ : Array Value)[0] else .tuple ⟨vs⟩) := by
  have hl := h.length
  unfold tupOf
  split
  · next v =>
    simp only [VRs] at h
    obtain ⟨x, _, rfl, hx, rfl⟩ := h
    simpa using hx
  · next hne =>
    have : (⟨vs⟩ : Array Value).size ≠ 1 := by
      intro e
      have : l.length = 1 := by rw [hl]; exact e
      obtain ⟨v, rfl⟩ := List.length_eq_one_iff.1 this
      exact hne v rfl
    rw [dif_neg this]
    simp only [VR]; exact ⟨vs, rfl, h⟩

theorem argTr_get : ∀ (args : List AV) (k : Nat) (t : Tr AV) (j : Nat), (argTr args k t).get j = if k ≤ j ∧ j < k + args.length then args[j - k]? else t.get j
  | [], k, t, j => by simp [argTr]; omega
  | v :: args, k, t, j => by
    rw [argTr, argTr_get args (k + 1)]
    simp only [List.length_cons]
    by_cases h1 : k + 1 ≤ j ∧ j < k + 1 + args.length
    · rw [if_pos h1, if_pos (by omega)]
      have : j - k = (j - (k + 1)) + 1 := by omega
      rw [this]; simp
    · rw [if_neg h1, Tr.get_set]
      by_cases h2 : j = k
      · subst h2; rw [if_pos rfl, if_pos (by omega)]; simp
      · rw [if_neg h2, if_neg (by omega)]

theorem enter_ok {args : List AV} {vs : List Value} {n : Nat} (h : VRs η args vs) :
    TR P η { t := argTr args 0 .nil, n := max args.length n, gn := P.globals.size } { tmps := (⟨vs⟩ : Array Value) ++ Array.replicate (n - (⟨vs⟩ : Array Value).size) undef, defers := [] } := by
  have hl := h.length
  refine ⟨rfl, ?_, rfl, fun t v hv => ?_⟩
  · simp; omega
  · rw [argTr_get] at hv
    split at hv
    · next hr =>
      obtain ⟨x, hx, hvx⟩ := h.at hv
      refine ⟨x, ?_, hvx⟩
      simp only [Nat.sub_zero] at hx
      have hlt := (List.getElem?_eq_some_iff.1 hx).1
      rw [Array.getElem?_append_left (by simpa using hlt)]
      simpa using hx
    · simp at hv

theorem callWith_ok {pr : Prims} {run : Code → AAct → ASt → Option (AExit × AAct × ASt)} (hp : PrimsOk P pr) (hn : NamesOk P) (hr : RunOk P run) : CallOk P (callWith P pr run) := by
  intro f args σ r σ' hs η w vs h hv
  unfold callWith at hs
  split at hs
  · next g hg => exact hp f g hg args σ r σ' hs η w vs h hv
  · split at hs
    · cases hs
    · next fn hfn =>
      split at hs
      · cases hs
      · next c hc =>
        have key : ∀ (e : AExit) a', (e = .normal ∨ e = .ret) → run c { t := argTr args 0 .nil, n := max args.length fn.ntmps, gn := P.globals.size } σ = some (e, a', σ') → ∀ l, aResults P σ' a' fn.results.toList = some l → r = tupOf l →
            CallN P f ⟨vs⟩ w fun v w' => ∃ η', St P η σ w η' σ' w' ∧ VR η' r v := by
          intro e a' he hrun l hl hrl
          right
          refine ⟨?_, ?_⟩
          · have hname := hn f fn c hfn hc
            simp only [callFunc, Sem.run_bind, program, Sem.run, Result.andThen_ok, hfn]
            simp only [hname, Bool.false_eq_true, if_false, hc, Option.isNone_some, Sem.run_pure]
          · refine calls_of_wp hfn hc ?_
            refine hr c _ _ _ _ _ hrun η w _ _ h (enter_ok hv) ?_
            intro η' A' w' hst ht
            have hres : ∃ us, (results fn A'.tmps).run P w' = .ok (if h : (⟨us⟩ : Array Value).size = 1 then (⟨us⟩ : Array Value)[0] else .tuple ⟨us⟩) w' ∧ VRs η' l us := by
              unfold results
              rw [Array.mapM_eq_mapM_toList]
              simp only [Sem.run_bind, Sem.run_map]
              obtain ⟨us, h1, h2⟩ := results_ok hst.rel ht (fun | .tmp t => pure (A'.tmps.getD t undef) | .cell a t => do loadVar t (← asAddr (A'.tmps.getD a undef))) (fun _ => rfl) (fun _ _ => rfl) _ _ hl
              refine ⟨us, ?_, h2⟩
              exact congrArg (fun r : Result (List Value) => (r.andThen fun a w' => Result.ok a.toArray w').andThen fun a w' => Sem.run P (pure (if h : a.size = 1 then a[0] else Value.tuple a)) w') h1
            obtain ⟨us, hres, h2⟩ := hres
            have hpost : A'.defers = [] ∧ ∃ v, (results fn A'.tmps).run P w' = .ok v w' ∧ ∃ v', Ending.returned v = .returned v' ∧ ∃ η', St P η σ w η' σ' w' ∧ VR η' r v' :=
              ⟨ht.none, _, hres, _, rfl, η', hst, by rw [hrl]; exact tup_ok h2⟩
            rcases he with rfl | rfl
            · exact hpost
            · exact hpost
        split at hs
        · next a' σ1 hrun =>
          simp only [Option.map_eq_some_iff, Prod.mk.injEq] at hs
          obtain ⟨l, hl, h1, h2⟩ := hs
          subst h2
          exact key _ a' (.inl rfl) hrun l hl h1.symm
        · next a' σ1 hrun =>
          simp only [Option.map_eq_some_iff, Prod.mk.injEq] at hs
          obtain ⟨l, hl, h1, h2⟩ := hs
          subst h2
          exact key _ a' (.inr rfl) hrun l hl h1.symm
        · cases hs

theorem code_ok {dr : Caller → Drawer} {pr : Prims} (hd : DrawOk P dr) (hp : PrimsOk P pr) (hn : NamesOk P) : ∀ n : Nat, RunOk P (aCodeF P dr pr n) ∧
    (∀ b a σ e a' σ', aCodeF P dr pr n (.loop b) a σ = some (e, a', σ') → ∀ η w A Q, SR P η σ w → TR P η a A → (∀ η' A' w', St P η σ w η' σ' w' → TR P η' a' A' → Q e.toExit A' w') → Code.rounds P b Q n A w) := by
  intro n
  induction n with
  | zero => exact ⟨fun c a σ e a' σ' hs => by simp [aCodeF_zero] at hs, fun b a σ e a' σ' hs => by simp [aCodeF_zero] at hs⟩
  | succ n ih =>
    obtain ⟨ih1, ih2⟩ := ih
    have hcall := callWith_ok hp hn ih1
    have loopOk : ∀ b a σ e a' σ', aCodeF P dr pr (n + 1) (.loop b) a σ = some (e, a', σ') → ∀ η w A Q, SR P η σ w → TR P η a A → (∀ η' A' w', St P η σ w η' σ' w' → TR P η' a' A' → Q e.toExit A' w') → Code.rounds P b Q (n + 1) A w := by
      intro b a σ e a' σ' hs η w A Q h ht hK
      rw [rounds_succ]
      simp only [aCodeF_succ, codeBody] at hs
      split at hs
      · next a1 σ1 h1 =>
        refine ih1 _ _ _ _ _ _ h1 η w A _ h ht ?_
        intro η1 A1 w1 hst ht1
        exact ih2 _ _ _ _ _ _ hs η1 w1 A1 Q hst.rel ht1 fun η' A' w' hst' ht' => hK η' A' w' (hst.trans hst') ht'
      · next hne =>
        refine ih1 _ _ _ _ _ _ hs η w A _ h ht ?_
        intro η1 A1 w1 hst ht1
        cases e with
        | normal => exact absurd hs (by intro e'; exact hne _ _ e')
        | exit id => exact hK η1 A1 w1 hst ht1
        | ret => exact hK η1 A1 w1 hst ht1
    refine ⟨?_, loopOk⟩
    intro c a σ e a' σ' hs η w A Q h ht hK
    cases c with
    | loop b => exact wp_loop_rounds (n + 1) (loopOk b a σ e a' σ' hs η w A Q h ht hK)
    | skip => simp only [aCodeF_succ, codeBody, Option.some.injEq, Prod.mk.injEq] at hs; obtain ⟨rfl, rfl, rfl⟩ := hs; exact wp_skip (hK η A w (St.refl h) ht)
    | region id ops draw =>
      cases draw with
      | false =>
        simp only [aCodeF_succ, codeBody, Option.map_eq_some_iff, Prod.mk.injEq] at hs
        obtain ⟨⟨a1, σ1⟩, h1, rfl, rfl, rfl⟩ := hs
        exact wp_region (ops_ok hcall _ h ht h1 hK)
      | true =>
        simp only [aCodeF_succ, codeBody, Option.map_eq_some_iff, Prod.mk.injEq] at hs
        obtain ⟨⟨a1, σ1⟩, h1, rfl, rfl, rfl⟩ := hs
        exact hd _ hcall ops a σ _ _ h1 η w A id Q h ht hK
    | seq x y =>
      simp only [aCodeF_succ, codeBody] at hs
      refine wp_seq ?_
      split at hs
      · next a1 σ1 h1 =>
        refine ih1 _ _ _ _ _ _ h1 η w A _ h ht ?_
        intro η1 A1 w1 hst ht1
        exact ih1 _ _ _ _ _ _ hs η1 w1 A1 Q hst.rel ht1 fun η' A' w' hst' ht' => hK η' A' w' (hst.trans hst') ht'
      · next hne =>
        refine ih1 _ _ _ _ _ _ hs η w A _ h ht ?_
        intro η1 A1 w1 hst ht1
        cases e with
        | normal => exact absurd hs (by intro e'; exact hne _ _ e')
        | exit id => exact hK η1 A1 w1 hst ht1
        | ret => exact hK η1 A1 w1 hst ht1
    | cond x y z =>
      simp only [aCodeF_succ, codeBody] at hs
      split at hs
      · next t hx =>
        obtain ⟨vd, hx, himp⟩ := dB_ok hx
        have hv := himp _ _ (eval_ok h ht x _ hx)
        simp only [VR] at hv
        refine wp_cond hv ?_
        exact ih1 _ _ _ _ _ _ hs η w A Q h ht hK
      · cases hs
    | block id b =>
      simp only [aCodeF_succ, codeBody] at hs
      refine wp_block ?_
      split at hs
      · next id' a1 σ1 h1 =>
        refine ih1 _ _ _ _ _ _ h1 η w A _ h ht ?_
        intro η1 A1 w1 hst ht1
        simp only [AExit.toExit, Exit.inBlock]
        split at hs
        · next e1 =>
          cases hs
          rw [if_pos e1]
          exact hK η1 A1 w1 hst ht1
        · next e1 =>
          cases hs
          rw [if_neg e1]
          exact hK η1 A1 w1 hst ht1
      · next hne =>
        refine ih1 _ _ _ _ _ _ hs η w A _ h ht ?_
        intro η1 A1 w1 hst ht1
        cases e with
        | normal => exact hK η1 A1 w1 hst ht1
        | exit id' => exact absurd hs (by intro e'; exact hne _ _ _ e')
        | ret => exact hK η1 A1 w1 hst ht1
    | exit id => simp only [aCodeF_succ, codeBody, Option.some.injEq, Prod.mk.injEq] at hs; obtain ⟨rfl, rfl, rfl⟩ := hs; exact wp_exit (hK η A w (St.refl h) ht)
    | ret => simp only [aCodeF_succ, codeBody, Option.some.injEq, Prod.mk.injEq] at hs; obtain ⟨rfl, rfl, rfl⟩ := hs; exact wp_ret (hK η A w (St.refl h) ht)
    | rangeFunc _ _ _ _ => simp [aCodeF_succ, codeBody] at hs
    | scope _ => simp [aCodeF_succ, codeBody] at hs
    | label _ => simp [aCodeF_succ, codeBody] at hs
    | goto _ => simp [aCodeF_succ, codeBody] at hs
    | refuse _ => simp [aCodeF_succ, codeBody] at hs

/-- A call that the evaluator carries out, the model carries out. -/
theorem aCall_ok {dr : Caller → Drawer} {pr : Prims} (hd : DrawOk P dr) (hp : PrimsOk P pr) (hn : NamesOk P) (n : Nat) : CallOk P (aCall P dr pr n) :=
  callWith_ok hp hn (code_ok hd hp hn n).1

end
end Go.Abs
