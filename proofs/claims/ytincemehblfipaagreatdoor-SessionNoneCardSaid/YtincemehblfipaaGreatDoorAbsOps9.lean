/- make, copy, conversions, maps that are written, ranges, unsafe. -/
import Derived.Test.YtincemehblfipaaGreatDoorAbsOps8
import Derived.Lib.UnsafeStr
namespace Go.Abs
noncomputable section
variable [TabsOf]
set_option linter.unusedSectionVars false
set_option linter.unusedVariables false
set_option linter.unusedSimpArgs false
variable {P : Program} {η : Env} {σ σ' : ASt} {w : World}

theorem wrap_id {n : Int} (h0 : 0 ≤ n) (h : n ≤ 2 ^ 60) : IntKind.i64.wrap n = n := Go.IntWalk.i64_in _ (by omega)

theorem makeSlice_ok (h : SR P η σ w) {t : TypeId} {l c v : AV} {x y : Value} (hs : aMakeSlice P t l c σ = some (v, σ')) (hx : VR η l x) (hy : VR η c y) :
    ∃ z w' η', (Instr.makeSlice t x y).run P w = .ok z w' ∧ St P η σ w η' σ' w' ∧ VR η' v z := by
  unfold aMakeSlice at hs
  split at hs
  · next e size bytes z l' c' hi hl hc =>
    split at hs
    · next hb =>
      obtain ⟨b1, b2, b3, b4⟩ := hb
      cases hs
      obtain ⟨kd, rfl⟩ := aInt_VR hl hx
      obtain ⟨kd', rfl⟩ := aInt_VR hc hy
      obtain ⟨hu, ⟨i, hinf, hsz, hby⟩, hz, he, hzl, hn⟩ := elemInfo_some hi
      obtain ⟨zv, hzr, hzv⟩ := run_zero hz
      have wl := wrap_id b1 (by omega : l' ≤ 2 ^ 60)
      have wc := wrap_id (by omega : 0 ≤ c') b4
      subst hby
      have hroom : ∀ w : World, (askRoom (c'.toNat * i.bytes)).run P w = .ok () w := fun w => by
        unfold askRoom; split <;> simp [mark, Sem.run]
      have t1 : (decide (c' < 0) || decide ((i.bytes : Int) * c' > 2 ^ 48)) = false := by simp; omega
      have hc0 : ((c'.toNat : Nat) : Int) = c' := by omega
      by_cases h0 : c'.toNat * size = 0
      · have hcells : (if size = 0 then [] else repl c'.toNat z) = [] := by
          split
          · rfl
          · next hne =>
            have : c'.toNat = 0 := by rcases Nat.mul_eq_zero.1 h0 with e | e; exact e; exact absurd e hne
            rw [this]; rfl
        rw [hcells]
        refine ⟨_, _, _, ?_, cells_new h (c := []) (xs := #[]) (elem := e) (es := 0) (opn := false) (by simp [VRs]) (by simp) (by simp) (by simp), new_sl (len := l'.toNat) (cap := some c'.toNat) rfl (by simp; omega)⟩
        have hr0 : Array.range 0 = #[] := rfl
        simp only [Instr.makeSlice, Sem.run_bind, run_under hu, Result.andThen_ok, asInt, asIntOf, Sem.run_pure, run_info hinf, wl, wc, t1, Bool.false_or, Sem.run_ite, hroom, run_size hn, h0, if_true, newRow, newObj, Sem.run, hr0, Array.map_empty]
        have t2 : (decide (l' < 0) || decide (l' > c')) = false := by simp; omega
        simp only [t2, Bool.false_eq_true, if_false]
        rfl
      · have hcells : (if size = 0 then [] else repl c'.toNat z) = repl c'.toNat z := by
          rw [if_neg]; rintro rfl; simp at h0
        rw [hcells]
        have hV := zeros_VRs (n := c'.toNat) (hzv η) hzl
        have hlen := hV.length
        refine ⟨_, _, _, ?_, cells_new h (c := repl c'.toNat z) (xs := (Array.range (c'.toNat * size)).map (zv.cells[· % zv.cells.size]!)) (elem := e) (es := 0) (opn := false) (by rw [hlen, List.take_length]; exact hV) (by simpa using Nat.le_of_eq hlen) (fun _ => by simpa using hlen) (by simp), new_sl (len := l'.toNat) (cap := some c'.toNat) rfl (by simp; omega)⟩
        simp only [Instr.makeSlice, Sem.run_bind, run_under hu, Result.andThen_ok, asInt, asIntOf, Sem.run_pure, run_info hinf, wl, wc, t1, Bool.false_or, Sem.run_ite, hroom, run_size hn, h0, if_false, hzr, newRow, newObj, Sem.run]
        have t2 : (decide (l' < 0) || decide (l' > c')) = false := by simp; omega
        simp only [t2, Bool.false_eq_true, if_false]
        rfl
    · cases hs
  · cases hs

theorem VRs.allOne {l : List AV} (n : Nat) (h : l.all AV.isAddrOrScalar = true) : (l.take n).all AV.isAddrOrScalar = true := by
  rw [List.all_eq_true] at h ⊢
  exact fun x hx => h x (List.mem_of_mem_take hx)

theorem copy_ok (h : SR P η σ w) {ts : Array TypeId} {ty : TypeId} {d x v : AV} {u u' : Value} (hs : aCopy P ts d x σ = some (v, σ')) (hu : VR η d u) (hx : VR η x u') :
    ∃ y w' η', (Builtin.copy_ ts ty #[u, u']).run P w = .ok y w' ∧ St P η σ w η' σ' w' ∧ VR η' v y := by
  unfold aCopy at hs
  split at hs
  · next t ht =>
    split at hs
    · next e size bytes z id off dLen cap hi =>
      obtain ⟨hut, _, _, _, _, hn⟩ := elemInfo_some hi
      simp only [VR] at hu
      obtain ⟨q, hq, hle, rfl⟩ := hu
      split at hs
      · next n new c et opn hsrc hg =>
        split at hs
        · cases hs
        · next h0 =>
          split at hs
          · next hc =>
            obtain ⟨hl, hone⟩ := hc
            simp only [Option.map_eq_some_iff] at hs
            obtain ⟨c', hr, e1⟩ := hs
            cases e1
            obtain ⟨h1, h2, h3⟩ := srcCells_ok h hsrc hx
            obtain ⟨ys, h4, h5⟩ := h3 (Nat.min n dLen) (Nat.min_le_left _ _)
            obtain ⟨w', hrun, hst⟩ := write_ok h hg hl hq hr h5 (VRs.allOne _ hone)
            refine ⟨.int .i64 (Nat.min n dLen : Nat), w', η, ?_, hst, by simp [VR]⟩
            simp only [Builtin.copy_, ht, Array.getElem?_toList, List.getElem?_toArray, List.getElem?_cons_zero, List.getElem?_cons_succ, Sem.run_bind, run_under hut, Result.andThen_ok, h2, run_size hn, h4 w rfl, hrun, Sem.run_pure, goInt]
          · cases hs
      · cases hs
    · next e size bytes z hi =>
      obtain ⟨hut, _, _, _, _, hn⟩ := elemInfo_some hi
      split at hs
      · next p hsrc =>
        obtain ⟨n, new⟩ := p
        cases hs
        simp only [VR] at hu; subst hu
        obtain ⟨h1, h2, h3⟩ := srcCells_ok h hsrc hx
        obtain ⟨ys, h4, h5⟩ := h3 0 (Nat.zero_le _)
        refine ⟨.int .i64 0, w, η, ?_, St.refl h, by simp [VR]⟩
        have hmin : Nat.min n 0 = 0 := Nat.min_zero _
        simp only [Builtin.copy_, ht, Array.getElem?_toList, List.getElem?_toArray, List.getElem?_cons_zero, List.getElem?_cons_succ, Sem.run_bind, run_under hut, Result.andThen_ok, h2, run_size hn, hmin, h4 w rfl, Sem.run_pure, goInt]
        rfl
      · cases hs
    · cases hs
  · cases hs

theorem bytesOf_ok : ∀ {l : List AV} {b : List UInt8} {xs : List Value}, bytesOf l = some b → VRs η l xs → xs = b.map fun c => Value.int .u8 c.toNat
  | [], b, xs, h, hx => by simp [bytesOf] at h; subst h; simpa [VRs] using hx
  | a :: l, b, xs, h, hx => by
    simp only [VRs] at hx
    obtain ⟨x, rest, rfl, h1, h2⟩ := hx
    unfold bytesOf at h
    split at h
    · next heq => cases heq
    · next n rest' heq =>
      cases heq
      split at h
      · next hb =>
        simp only [Option.map_eq_some_iff] at h
        obtain ⟨b', hb', rfl⟩ := h
        simp only [VR] at h1; subst h1
        rw [bytesOf_ok hb' h2]
        simp only [List.map_cons, List.cons.injEq, and_true, Value.int.injEq, true_and]
        have : (UInt8.ofNat n.toNat).toNat = n.toNat := by simp; omega
        rw [this]; omega
      · cases h
    · cases h

theorem run_bytesLoop (f : Value → ByteArray → Sem (ForInStep ByteArray)) (hf : ∀ n r w, (f (.int .u8 n) r).run P w = .ok (.yield (r.push (UInt8.ofNat n.toNat))) w) (b : List UInt8) (acc : ByteArray) :
    (forIn (⟨b.map fun c => Value.int .u8 c.toNat⟩ : Array Value) acc f).run P w = .ok ⟨⟨acc.data.toList ++ b⟩⟩ w := by
  rw [← Array.forIn_toList]
  simp only
  induction b generalizing acc with
  | nil => simp
  | cons c b ih =>
    simp only [List.map_cons, List.forIn_cons, Sem.run_bind, hf, Result.andThen_ok]
    rw [ih]
    congr 1
    simp

theorem shape_of {bl : Nat} {cs : Array Value} {elem : TypeId} {fr : Nat × Nat} (h : w.heap[bl]? = some (.cells cs elem fr)) : w.shape? bl = some (elem, cs.size) := by
  simp [World.shape?, h]

/-- The bytes of a string, in a new block whose end is marked. -/
theorem toBytes_ok (h : SR P η σ w) {e : TypeId} {s : List UInt8} (he : e ≠ 0) (hn : sizeT P e = some 1) :
    ∃ y w' η', (Conv.stringToBytes e ⟨⟨s⟩⟩).run P w = .ok y w' ∧ St P η σ w η' (σ.new (.cells (byteAVs s) e true true)) w' ∧ VR η' (.sl σ.next 0 s.length none) y := by
  have hge := grownCap_ge w s.length 0 e
  generalize hcap : grownCap w s.length 0 e = cap at hge
  let xs : Array Value := (s.map fun b => Value.int .u8 b.toNat).toArray ++ Array.replicate (cap - s.length) (.int .u8 0)
  have hsz : xs.size = cap := by simp [xs]; omega
  have hpush : ∀ (o : Obj) (f : Obj → Obj), (w.heap.push o).modify w.heap.size f = w.heap.push (f o) := by
    intro o f
    apply Array.ext_getElem?
    intro i
    rw [Array.getElem?_modify, Array.getElem?_push, Array.getElem?_push]
    by_cases e1 : w.heap.size = i
    · subst e1; simp
    · rw [if_neg e1]
      by_cases e2 : i = w.heap.size
      · exact absurd e2.symm e1
      · rw [if_neg e2, if_neg e2]
  have hst : St P η σ w.drew (η.put σ.next ⟨w.heap.size, 0, cap, 1⟩) (σ.new (.cells (byteAVs s) e true true)) { w.drew with heap := w.heap.push (.cells xs e (cap, cap + 1)) } := by
    refine St.alloc (w := w.drew) h.drew _ _ _ rfl ?_
    refine ⟨xs, e, (cap, cap + 1), by show (w.heap.push _)[w.heap.size]? = _; simp, ?_⟩
    refine { fits := by simp [hsz], le := by simpa [byteAVs] using hge, shut := by simp, cell := ?_, free := fun _ k hk => ?_, whole := fun _ => ⟨rfl, by simp [hsz], fun _ => rfl⟩, room := fun _ => ⟨he, Nat.one_pos, hn⟩ }
    · intro k a hk
      obtain ⟨x, hx, hv⟩ := (byteAVs_VRs (η := η.put σ.next ⟨w.heap.size, 0, cap, 1⟩) s).at hk
      refine ⟨x, ?_, hv⟩
      have hkl := (List.getElem?_eq_some_iff.1 hx).1
      simp only [Nat.zero_add, xs]
      rw [Array.getElem?_append_left (by simpa using hkl)]
      simpa using hx
    · have hk' : k < cap := hk
      show ¬ (cap ≤ 0 + k ∧ 0 + k < cap + 1)
      omega
  refine ⟨.slice (some ⟨w.heap.size, 0, none⟩) s.length cap, _, _, ?_, (St.drew h).trans hst, ?_⟩
  · have hsh : ({ w.drew with heap := w.heap.push (.cells xs e) } : World).shape? w.heap.size = some (e, cap) := by
      simp [World.shape?, hsz]
    have hfz : ({ w.drew with heap := w.heap.push (.cells xs e) } : World).freeze { block := w.heap.size, off := cap } 1 = { w.drew with heap := w.heap.push (.cells xs e (cap, cap + 1)) } := by
      unfold World.freeze
      rw [if_neg (by omega), hpush]
      rfl
    have hch : (choose (.appendCap (⟨⟨s⟩⟩ : ByteArray).size 0 e)).run P w = .ok cap w.drew := by
      have : (⟨⟨s⟩⟩ : ByteArray).size = s.length := rfl
      rw [this]
      simp only [choose, Sem.run, Question.forced, Bool.false_eq_true, if_false]
      rw [← hcap]; rfl
    have hxs : ((⟨⟨s⟩⟩ : ByteArray).data.map fun b => Value.int .u8 b.toNat) ++ Array.replicate (cap - (⟨⟨s⟩⟩ : ByteArray).size) (.int .u8 0) = xs := by
      have : (⟨⟨s⟩⟩ : ByteArray).size = s.length := rfl
      rw [this]; simp [xs]
    simp only [Conv.stringToBytes, Sem.run_bind, hch, Result.andThen_ok, hxs, newRow, newObj, Sem.run_pure, Sem.run]
    simp only [markStringish, shape, Sem.run_bind, Sem.run]
    show ((Result.ok (({ w.drew with heap := w.heap.push (.cells xs e) } : World).shape? w.heap.size) _).andThen _).andThen _ = _
    rw [hsh]
    simp only [Result.andThen_ok, freeze, Sem.run]
    exact congrArg (Result.ok (Value.slice (some ⟨w.heap.size, 0, none⟩) s.length cap)) hfz
  · have := new_sl (q := ⟨w.heap.size, 0, cap, 1⟩) (η := η) (id := σ.next) (len := s.length) (cap := none) rfl (by simp only [Option.getD_none, Nat.div_one]; exact hge)
    simpa using this

theorem convert_ok (h : SR P η σ w) {src dst : TypeId} {a v : AV} {x : Value} (hs : aConvert P src dst a σ = some (v, σ')) (hx : VR η a x) :
    ∃ y w' η', (convert src dst x).run P w = .ok y w' ∧ St P η σ w η' σ' w' ∧ VR η' v y := by
  unfold aConvert at hs
  split at hs
  · next d k kd n h1 h2 =>
    cases hs
    simp only [VR] at hx; subst hx
    exact ⟨.int k (k.wrap n), w, η, by simp only [convert, Sem.run_bind, run_under h1, run_under h2, Result.andThen_ok]; rfl, St.refl h, by simp [VR]⟩
  · next s h1 h2 =>
    cases hs
    simp only [VR] at hx; subst hx
    exact ⟨_, w, η, by simp only [convert, Sem.run_bind, run_under h1, run_under h2, Result.andThen_ok]; rfl, St.refl h, by simp [VR]⟩
  · next e s h1 h2 =>
    split at hs
    · next h3 =>
      split at hs
      · next hc =>
        cases hs
        simp only [VR] at hx; subst hx
        obtain ⟨y, w', η', hr, hst, hv⟩ := toBytes_ok h (s := s) hc.1 hc.2
        exact ⟨y, w', η', by simp only [convert, Sem.run_bind, run_under h1, run_under h2, Result.andThen_ok, run_under h3]; exact hr, hst, hv⟩
      · cases hs
    · cases hs
  · next e h1 h2 =>
    split at hs
    · next h3 =>
      cases hs
      simp only [VR] at hx; subst hx
      exact ⟨.string ⟨⟨[]⟩⟩, w, η, by simp only [convert, Sem.run_bind, run_under h1, run_under h2, Result.andThen_ok, run_under h3, Conv.bytesToString, Sem.run_pure]; rfl, St.refl h, by simp [VR]⟩
    · cases hs
  · next e id off len cap h1 h2 =>
    split at hs
    · next c et rw opn h3 hg =>
      split at hs
      · next r hr =>
        simp only [Option.map_eq_some_iff] at hs
        obtain ⟨b, hb, e1⟩ := hs
        cases e1
        simp only [VR] at hx
        obtain ⟨q, hq, hle, rfl⟩ := hx
        obtain ⟨q', hq', cs, elem, fr, hblk, rr⟩ := h.obj _ _ hg
        rw [hq] at hq'; cases hq'
        have hv := rr.takeVRs hr
        have hxs := bytesOf_ok hb hv
        refine ⟨.string ⟨⟨b⟩⟩, w, η, ?_, St.refl h, by simp [VR]⟩
        simp only [convert, Sem.run_bind, run_under h1, run_under h2, Result.andThen_ok, run_under h3, Conv.bytesToString]
        rw [run_loadCells' hblk (rr.take hr), hxs]
        simp only [Result.andThen_ok]
        rw [run_bytesLoop _ (fun _ _ _ => rfl)]
        rfl
      · cases hs
    · cases hs
  · next e l h1 h2 =>
    split at hs
    · next h3 =>
      simp only [Option.map_eq_some_iff] at hs
      obtain ⟨b, hb, e1⟩ := hs
      cases e1
      simp only [VR] at hx
      rcases hx with ⟨rfl, rfl⟩ | ⟨bl, off, c, xs, sz, rfl, hc, g1, g2, g3⟩
      · simp [bytesOf] at hb
        subst hb
        exact ⟨.string ⟨⟨[]⟩⟩, w, η, by simp only [convert, Sem.run_bind, run_under h1, run_under h2, Result.andThen_ok, run_under h3, Conv.bytesToString, Sem.run_pure]; rfl, St.refl h, by simp [VR]⟩
      have hxs := bytesOf_ok hb g1
      have hl1 := g1.length
      have hcl : cellsL xs = xs := by
        rw [hxs]
        clear hxs hb g1 g2 g3 hl1
        unfold cellsL
        induction b with
        | nil => rfl
        | cons c b ih =>
          simp only [List.map_cons, List.flatMap_cons, ih]
          rfl
      refine ⟨.string ⟨⟨b⟩⟩, w, η, ?_, St.refl h, by simp [VR]⟩
      simp only [convert, Sem.run_bind, run_under h1, run_under h2, Result.andThen_ok, run_under h3, Conv.bytesToString]
      have hload : (loadCells ⟨bl, off, none⟩ l.length).run P w = .ok ⟨xs⟩ w := by
        by_cases hn : l = []
        · subst hn
          have : xs = [] := List.eq_nil_of_length_eq_zero hl1.symm
          subst this
          simp [loadCells, loadCellsFrom]
        · obtain ⟨cs, elem, fr, h4, h5, h6⟩ := g3 hn
          rw [hcl] at h5 h6
          rw [run_loadCells' (h.roAt _ _ h4) (by omega)]
          congr 2
          apply List.ext_getElem?
          intro j
          rw [List.getElem?_take]
          split
          · next hj =>
            have hlt : j < xs.length := by omega
            rw [List.getElem?_drop, List.getElem?_eq_getElem hlt, Array.getElem?_toList]
            exact h6 j _ (List.getElem?_eq_getElem hlt)
          · next hj => rw [List.getElem?_eq_none (by omega)]
      rw [hload, hxs]
      simp only [Result.andThen_ok]
      rw [run_bytesLoop _ (fun _ _ _ => rfl)]
      rfl
    · cases hs
  · next t id off h1 h2 =>
    split at hs
    · next c et rw n hg hn =>
      split at hs
      · next hc =>
        cases hs
        obtain ⟨c1, c2, c3⟩ := hc
        simp only [VR] at hx
        obtain ⟨q, hq, rfl⟩ := hx
        obtain ⟨q', hq', cs, elem, fr, hblk, rr⟩ := h.obj _ _ hg
        rw [hq] at hq'; cases hq'
        have hfit := rr.fits; have hle := rr.le
        simp only [sizeT, Option.map_eq_some_iff] at hn
        obtain ⟨i, hi, rfl⟩ := hn
        exact ⟨_, w, η, Lib.run_to_unsafe w _ h1 h2 hi c3 (shape_of hblk) (by show q.ba + off < cs.size; omega), St.refl h, by simp only [VR]; exact ⟨q, hq, rfl⟩⟩
      · cases hs
    · cases hs
  · next u id off h1 h2 =>
    split at hs
    · next c et rw n hg hn =>
      split at hs
      · next hc =>
        cases hs
        obtain ⟨c1, c2⟩ := hc
        simp only [VR] at hx
        obtain ⟨q, hq, rfl⟩ := hx
        obtain ⟨q', hq', cs, elem, fr, hblk, rr⟩ := h.obj _ _ hg
        rw [hq] at hq'; cases hq'
        obtain ⟨w1, w2, w3⟩ := rr.whole c1
        have hba := w3 rfl
        have hlen := rr.shut rfl
        simp only [sizeT, Option.map_eq_some_iff] at hn
        obtain ⟨i, hi, _⟩ := hn
        refine ⟨_, w, η, Lib.run_from_unsafe w _ h1 h2 hi (shape_of hblk) ?_, St.refl h, by simp only [VR]; exact ⟨q, hq, rfl⟩⟩
        subst w1
        rw [hba] at w2 ⊢
        simp only [Nat.zero_add] at w2 ⊢
        rw [← w2, ← hlen]; exact c2
      · cases hs
    · cases hs
  · cases hs

end
end Go.Abs
