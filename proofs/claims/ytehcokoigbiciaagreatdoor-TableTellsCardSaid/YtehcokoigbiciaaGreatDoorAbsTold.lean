/- Library functions that are told: slices.Clone, utf8.ValidString. -/
import Derived.Test.YtehcokoigbiciaaGreatDoorAbsJ
import Derived.Laws.AppendOwn
import Derived.Lib.ValidU
namespace Go.Abs
open Go.RowKit
noncomputable section
set_option linter.unusedSectionVars false
set_option linter.unusedVariables false
variable {P : Program}

def cloneP (bytes size : Nat) : List GV → Option (List GV)
  | [.l xs] => if xs.length * bytes ≤ 140737488355328 ∧ xs.all (GV.elemOk size) = true then some [.l xs] else none
  | _ => none
def validP : List GV → Option (List GV)
  | [.s x] => if x.length ≤ 9223372036854775807 then some [.b (Lib.validD x)] else none
  | _ => none

theorem Kept.of_below {w w' : World} (h : Below w.heap.size w w') : Kept w w' := ⟨h.os, h.tape, h.output, h.size, fun bl hb => h.block bl hb⟩

/-- What frozen blocks become where all that is new is frozen. -/
def roAll (ro : Nat → Option Obj) (w w' : World) : Nat → Option Obj := fun b => if b < w.heap.size then ro b else w'.heap[b]?
theorem roStep_all {tabs : List (Nat × List AV)} {ro : Nat → Option Obj} {w w' : World} (hro : RoOk tabs ro w) (h : Below w.heap.size w w') : RoStep ro (roAll ro w w') w w' := by
  letI : TabsOf := Tg [] [] 0
  refine ⟨Kept.of_below h, fun b o hb => ?_, fun b hb => ?_, fun b o hb => ?_⟩
  · show (if _ then _ else _) = _
    rw [if_pos (getLt (hro.at' b o hb))]; exact hb
  · have hb' : (if b < w.heap.size then ro b else w'.heap[b]?) ≠ none := hb
    split at hb'
    · exact .inl hb'
    · next hn => exact .inr (by omega)
  · have hb' : (if b < w.heap.size then ro b else w'.heap[b]?) = some o := hb
    split at hb'
    · next hn => rw [h.block b hn]; exact hro.at' b o hb'
    · exact hb'

theorem GRs.ones' {ro : Nat → Option Obj} : ∀ {l : List GV} {vs : List Value}, GRs ro l vs → l.all GV.scalar = true → ∀ v ∈ vs, v.oneCell' = true
  | [], vs, h, _, v, hv => by simp only [GRs] at h; subst h; simp at hv
  | a :: l, vs, h, hs, v, hv => by
    simp only [GRs] at h
    obtain ⟨x, xs, rfl, h1, h2⟩ := h
    simp only [List.all_cons, Bool.and_eq_true] at hs
    rcases List.mem_cons.1 hv with rfl | hv
    · letI : TabsOf := Tg [] [] 0
      rw [oneC_eq]; exact GR.oneC h1 hs.1
    · exact GRs.ones' h2 hs.2 v hv
/-- An element's cells. -/
theorem elem_cells {ro : Nat → Option Obj} {x : GV} {y : Value} {size : Nat} (hx : x.elemOk size = true) (h : GR ro x y) : y.cells.size = size ∧ ∀ v ∈ y.cells.toList, v.oneCell' = true := by
  letI : TabsOf := Tg [] [] 0
  unfold GV.elemOk at hx
  rw [Bool.and_eq_true] at hx
  have h1 := Nat.eq_of_beq_eq_true hx.1
  refine ⟨by rw [← h1]; exact (GR.cellsLen (η := ⟨fun _ => none, ro, fun _ => false⟩) h).symm, ?_⟩
  cases x with
  | g cs =>
    simp only [GR] at h
    obtain ⟨vs, rfl, h⟩ := h
    exact GRs.ones' h hx.2
  | l xs =>
    have ho := GR.oneC h (g := .l xs) rfl
    intro v hv
    simp only [GR] at h
    rcases h with ⟨_, p, rfl⟩ | ⟨_, _, _, _, _, rfl, _⟩ <;> (simp [Value.cells] at hv; subst hv; rfl)
  | _ =>
    simp only [GR] at h
    subst h
    intro v hv
    simp [Value.cells] at hv
    subst hv; rfl

theorem clone_FnC {tabs : List (Nat × List AV)} {f size bytes : Nat} {e : TypeId} (h0 : 0 < size)
    (walk : ∀ (a : Addr) (n c : Nat) (news : List Value) (w : World), news.length = n * size → (∀ j u, news[j]? = some u → w.cell? (a.add j) = some u) → (∀ u ∈ news, u.oneCell' = true) → n * bytes ≤ 140737488355328 → n ≤ maxLen →
      Calls P f #[.slice (some a) n c] w fun er w' => ∃ v', er = .returned v' ∧ w'.ownsRow w.heap.size e size v' n news ∧ Below w.heap.size w w')
    (nil : ∀ w, Calls P f #[.slice none 0 0] w fun er w' => er = .returned (.slice none 0 0) ∧ w' = w)
    (enters : ∀ args w, (callFunc f args).run P w = .ok (.enter f args) w) (hby : 0 < bytes) {gs out : List GV} (h : cloneP bytes size gs = some out) : FnC P tabs f [] [.sc] gs out := by
  unfold cloneP at h
  split at h
  rotate_left
  · cases h
  next xs =>
  split at h
  rotate_left
  · cases h
  next hc =>
  cases h
  obtain ⟨hlen, hall⟩ := hc
  letI : TabsOf := Tg [] [] 0
  refine ⟨fun ro w vs hro hvs => ?_, rfl⟩
  simp only [GRs] at hvs
  obtain ⟨v, l, rfl, hv, rfl⟩ := hvs
  have hval := hv
  simp only [GR] at hv
  have fin : ∀ (a : Addr) (c : Nat) (ys : List Value), GRs ro xs ys → (∀ j u, (cellsL ys)[j]? = some u → w.cell? (a.add j) = some u) → xs.length ≤ maxLen → v = .slice (some a) xs.length c →
      CallN P f ⟨putS [] [v]⟩ w fun v' w' => ∃ ro', RoStep ro ro' w w' ∧ ∃ us, v' = tupV us ∧ GRs ro' [.l xs] us := by
    rintro a c ys hys hcell hmx rfl
    letI : TabsOf := Tg [] [] 0
    have hsz : ∀ y ∈ ys, y.cells.size = size := by
      intro y hy
      obtain ⟨k, hk⟩ := List.getElem?_of_mem hy
      have hkl : k < xs.length := by rw [hys.length]; exact (List.getElem?_eq_some_iff.1 hk).1
      obtain ⟨y', hy1, hy2⟩ := hys.at (List.getElem?_eq_getElem hkl)
      rw [hk] at hy1; cases hy1
      exact (elem_cells (List.all_eq_true.1 hall _ (List.getElem_mem hkl)) hy2).1
    have hone : ∀ u ∈ cellsL ys, u.oneCell' = true := by
      intro u hu
      obtain ⟨y, hy, hu⟩ := List.mem_flatMap.1 hu
      obtain ⟨k, hk⟩ := List.getElem?_of_mem hy
      have hkl : k < xs.length := by rw [hys.length]; exact (List.getElem?_eq_some_iff.1 hk).1
      obtain ⟨y', hy1, hy2⟩ := hys.at (List.getElem?_eq_getElem hkl)
      rw [hk] at hy1; cases hy1
      exact (elem_cells (List.all_eq_true.1 hall _ (List.getElem_mem hkl)) hy2).2 u hu
    have hnl : (cellsL ys).length = xs.length * size := by rw [cellsL_length hsz, hys.length]
    refine .inr ⟨enters _ w, Calls.mono' (walk a xs.length c (cellsL ys) w hnl hcell hone hlen hmx) ?_⟩
    rintro er w' ⟨v', rfl, hown, hbel⟩
    refine ⟨v', rfl, roAll ro w w', roStep_all hro hbel, [v'], rfl, ?_⟩
    simp only [GRs]
    refine ⟨_, _, rfl, ?_, rfl⟩
    obtain ⟨_, hown⟩ := hown
    simp only [GR]
    rcases hown with ⟨rfl, hn⟩ | ⟨g, cap, cur, rfl, hg, hb, hcap, _, hcs, htake⟩
    · exact .inl ⟨List.eq_nil_of_length_eq_zero hn, _, rfl⟩
    · right
      refine ⟨g, 0, cap, ys, size, rfl, hcap, GRs.mono (fun b o hb => (roStep_all hro hbel).le b o hb) _ _ hys, hsz, fun hne => ⟨cur, e, (0, 0), ?_, ?_, ?_⟩⟩
      · show (if g < w.heap.size then ro g else w'.heap[g]?) = _
        rw [if_neg (by omega)]; exact hb
      · rw [hnl, hcs, Nat.zero_add]; exact Nat.mul_le_mul_right _ hcap
      · intro k x hk
        rw [← htake, List.getElem?_take] at hk
        split at hk
        · simpa using hk
        · cases hk
  have hmx : xs.length ≤ maxLen := by
    have : xs.length ≤ xs.length * bytes := Nat.le_mul_of_pos_right _ hby
    unfold maxLen; omega
  rcases hv with ⟨rfl, p, rfl⟩ | ⟨bl, off, c, ys, sz, rfl, hc, hys, hsz, hmem⟩
  · cases p with
    | none =>
      refine .inr ⟨enters _ w, Calls.mono' (nil w) ?_⟩
      rintro er w' ⟨rfl, hw⟩
      rw [hw]
      exact ⟨_, rfl, ro, ⟨Kept.refl w, fun _ _ h => h, fun _ h => .inl h, hro.at'⟩, [_], rfl, by simp only [GRs]; exact ⟨_, _, rfl, hval, rfl⟩⟩
    | some a => exact fin a 0 [] (by simp [GRs]) (by intro j u hj; simp [cellsL] at hj) hmx rfl
  · refine fin ⟨bl, off, none⟩ c ys hys (fun j u hj => ?_) hmx rfl
    have hne : xs ≠ [] := by
      rintro rfl
      simp only [GRs] at hys
      subst hys
      simp [cellsL] at hj
    obtain ⟨cs, elem, fr, h1, h2, h3⟩ := hmem hne
    have hb := hro.at' _ _ h1
    have hadd : (Addr.mk bl off none).add j = ⟨bl, off + j, none⟩ := by unfold Addr.add; split <;> simp_all
    rw [hadd]
    simp only [World.cell?, hb]
    rw [if_neg (by simp)]
    exact h3 j u hj

theorem valid_FnC {tabs : List (Nat × List AV)} {f : FuncId} (walk : ∀ (s : ByteArray) (w : World) (ro : Nat → Option Obj), RoOk tabs ro w → s.size ≤ 9223372036854775807 → Calls P f #[.string s] w fun e w' => e = .returned (.bool (Lib.validD s.data.toList)) ∧ Below w.heap.size w w')
    (enters : ∀ args w, (callFunc f args).run P w = .ok (.enter f args) w) {gs out : List GV} (h : validP gs = some out) : FnC P tabs f [] [.sc] gs out := by
  unfold validP at h
  split at h
  rotate_left
  · cases h
  next x =>
  split at h
  rotate_left
  · cases h
  next hx =>
  cases h
  letI : TabsOf := Tg [] [] 0
  refine ⟨fun ro w vs hro hvs => ?_, rfl⟩
  simp only [GRs, GR] at hvs
  obtain ⟨v, l, rfl, rfl, rfl⟩ := hvs
  refine .inr ⟨enters _ w, Calls.mono' (walk ⟨⟨x⟩⟩ w ro hro hx) ?_⟩
  rintro e w' ⟨rfl, hb⟩
  exact ⟨_, rfl, roAll ro w w', roStep_all hro hb, [_], rfl, by simp [GRs, GR]⟩
end
end Go.Abs
