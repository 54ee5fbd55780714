/- Maps that are written, ranges over strings, unsafe strings. -/
import Derived.Test.YtincemehblfipaaGreatDoorAbsOps9
namespace Go.Abs
noncomputable section
variable [TabsOf]
set_option linter.unusedSectionVars false
set_option linter.unusedVariables false
set_option linter.unusedSimpArgs false
variable {P : Program} {η : Env} {σ σ' : ASt} {w : World}

theorem setObj_ok {r : Nat} {o o' : Obj} (hb : w.heap[r]? = some o) (hno : ∀ c e f, o ≠ .cells c e f) : (setObj r o').run P w = .ok () (setBlk w r o') := by
  simp only [setObj, Sem.run, hb]
  cases o <;> first | (exact absurd rfl (hno _ _ _)) | rfl

theorem makeMap_ok (h : SR P η σ w) {t : TypeId} {r : Option Value} (hr : r = none ∨ ∃ k n kt et, r = some (.int k n) ∧ P.underlying t = some (.map kt et)) :
    ∃ y w' η', (Instr.makeMap t r).run P w = .ok y w' ∧ St P η σ w η' (σ.new (.map [])) w' ∧ VR η' (.mp σ.next) y := by
  refine ⟨.map (some w.heap.size), _, _, ?_, St.alloc h (.map []) (.map #[] 0) ⟨w.heap.size, 0, 0, 0⟩ rfl ⟨#[], 0, by simp, by simp, by simp⟩, by simp only [VR]; exact ⟨⟨w.heap.size, 0, 0, 0⟩, by simp [Env.put], rfl⟩⟩
  rcases hr with rfl | ⟨k, n, kt, et, rfl, hu⟩
  · simp only [Instr.makeMap, Sem.run_bind, newObj, Sem.run, Sem.run_pure, Result.andThen_ok]
  · simp only [Instr.makeMap, Sem.run_bind, run_under hu, asInt, asIntOf, newObj, Sem.run, Sem.run_pure, Result.andThen_ok]

theorem mapUpdate_ok (h : SR P η σ w) {t : TypeId} {m k v : AV} {x y z : Value} (hs : aMapUpdate P t m k v σ = some σ') (hx : VR η m x) (hy : VR η k y) (hz : VR η v z) :
    ∃ w', (Instr.mapUpdate t x y z).run P w = .ok () w' ∧ St P η σ w η σ' w' := by
  unfold aMapUpdate at hs
  split at hs
  · next kt et id hu =>
    split at hs
    · next es hg =>
      split at hs
      · next hc =>
        obtain ⟨hl, hfit⟩ := hc
        simp only [VR] at hx
        obtain ⟨q, hq, rfl⟩ := hx
        obtain ⟨q', hq', ms, clock, hb, hsz, hp⟩ := h.obj _ _ hg
        rw [hq] at hq'; cases hq'
        obtain ⟨kd, hku, hf⟩ := fitKey_ok hfit
        have hck := checkKey_ok (w := w) hku hf hy false
        have hgo : (getObj q.bl).run P w = .ok (.map ms clock) w := by simp [getObj, Sem.run, hb]
        have hmr : MRs η es ms.toList := ⟨by simpa using hsz, fun k e hk => by obtain ⟨m, hm, h1, h2⟩ := hp k e hk; exact ⟨m, by simpa using hm, h1, h2⟩⟩
        split at hs
        · next i u hfound =>
          cases hs
          obtain ⟨r', h1, h2⟩ := find_ok hf hy hfound hmr
          cases r' with
          | none => exact h2.elim
          | some p =>
            obtain ⟨j', zz⟩ := p
            obtain ⟨rfl, _, hlt, _⟩ := h2
            simp only [Nat.zero_add] at hlt
            have hil : i < ms.size := by omega
            have hsame : Instr.sameNow kd y (ms[i]).key = some true := by
              have : ∀ (l : List MapEntry) (k j : Nat) (v : Value), Instr.findNow kd y l k = some (some (j, v)) → k ≤ j ∧ ∃ m, l[j - k]? = some m ∧ Instr.sameNow kd y m.key = some true := by
                intro l
                induction l with
                | nil => intro k j v hh; simp [Instr.findNow] at hh
                | cons m l ih =>
                  intro k j v hh
                  unfold Instr.findNow at hh
                  split at hh
                  · next hk => cases hh; exact ⟨Nat.le_refl _, m, by simp, hk⟩
                  · next hk =>
                    obtain ⟨a, m', b, c⟩ := ih _ _ _ hh
                    refine ⟨by omega, m', ?_, c⟩
                    have : j - k = (j - (k + 1)) + 1 := by omega
                    rw [this]; simpa using b
                  · cases hh
              obtain ⟨_, m, hm, hmm⟩ := this _ _ _ _ h1
              simp only [Nat.sub_zero, Array.getElem?_toList] at hm
              rw [Array.getElem?_eq_getElem hil] at hm
              cases hm; exact hmm
            have hbits := sameBits_refl hf hy hsame 9999
            have hfk : (Instr.findKey kt y ms.toList).run P w = .ok (some (i, zz)) w := by
              simp only [Instr.findKey, Sem.run_bind, run_under hku, Result.andThen_ok, h1, Sem.run_pure]
            have hstay : (Instr.keyThatStays (((ms[i]?).map (·.key)).getD y) y).run P w = .ok y w := by
              rw [Array.getElem?_eq_getElem hil]
              simp only [Option.map_some, Option.getD_some, Instr.keyThatStays]
              rw [if_pos hbits]; rfl
            refine ⟨setBlk w q.bl (.map (ms.modify i fun e => { e with key := y, val := z }) clock), ?_, St.write h hg rfl hl hq setBlk_size (fun k hk => setBlk_ne hk) rfl rfl rfl ?_⟩
            · simp only [Instr.mapUpdate, Sem.run_bind, run_under hu, Result.andThen_ok, hgo, hck, hfk, hstay]
              exact setObj_ok hb (by simp)
            · refine ⟨_, clock, setBlk_at hb, by simpa using hsz, fun j e hj => ?_⟩
              rw [List.getElem?_set] at hj
              split at hj
              · next e1 =>
                subst e1
                cases hj
                refine ⟨{ ms[i] with key := y, val := z }, ?_, hy, hz⟩
                rw [Array.getElem?_modify, if_pos rfl, Array.getElem?_eq_getElem hil]; rfl
              · next e1 =>
                obtain ⟨m, hm, a, b⟩ := hp j e hj
                refine ⟨m, ?_, a, b⟩
                rw [Array.getElem?_modify, if_neg e1]; exact hm
        · next hfound =>
          cases hs
          obtain ⟨r', h1, h2⟩ := find_ok hf hy hfound hmr
          cases r' with
          | some p => exact h2.elim
          | none =>
            have hfk : (Instr.findKey kt y ms.toList).run P w = .ok none w := by
              simp only [Instr.findKey, Sem.run_bind, run_under hku, Result.andThen_ok, h1, Sem.run_pure]
            refine ⟨setBlk w q.bl (.map (ms.push { key := y, val := z, born := clock }) (clock + 1)), ?_, St.write h hg rfl hl hq setBlk_size (fun k hk => setBlk_ne hk) rfl rfl rfl ?_⟩
            · simp only [Instr.mapUpdate, Sem.run_bind, run_under hu, Result.andThen_ok, hgo, hck, hfk]
              exact setObj_ok hb (by simp)
            · refine ⟨_, clock + 1, setBlk_at hb, by simp [hsz], fun j e hj => ?_⟩
              rw [List.getElem?_append] at hj
              split at hj
              · next hlt =>
                obtain ⟨m, hm, a, b⟩ := hp j e hj
                refine ⟨m, ?_, a, b⟩
                rw [Array.getElem?_push, if_neg (by omega)]; exact hm
              · next hge =>
                have hj0 : j - es.length = 0 := by
                  have := (List.getElem?_eq_some_iff.1 hj).1; simp at this; omega
                rw [hj0] at hj
                simp at hj; subst hj
                refine ⟨{ key := y, val := z, born := clock }, ?_, hy, hz⟩
                rw [Array.getElem?_push, if_pos (by omega)]
        · cases hs
      · cases hs
    · cases hs
  · cases hs

theorem range_ok (h : SR P η σ w) {t : TypeId} {s : List UInt8} (hu : P.underlying t = some .string) :
    ∃ y w' η', (Instr.range t (.string ⟨⟨s⟩⟩)).run P w = .ok y w' ∧ St P η σ w η' (σ.new (.iter s 0)) w' ∧ VR η' (.p σ.next 0) y := by
  refine ⟨.pointer (some ⟨w.heap.size, 0, none⟩), _, _, ?_, St.alloc h (.iter s 0) (.stringIter ⟨⟨s⟩⟩ 0) ⟨w.heap.size, 0, 0, 0⟩ rfl ⟨by simp, rfl⟩, by simp only [VR]; exact ⟨⟨w.heap.size, 0, 0, 0⟩, by simp [Env.put], rfl⟩⟩
  simp only [Instr.range, Sem.run_bind, run_under hu, newObj, Sem.run, Sem.run_pure, Result.andThen_ok]

theorem rangeM_nil (h : SR P η σ w) {t k e : TypeId} (hu : P.underlying t = some (.map k e)) :
    ∃ y w' η', (Instr.range t (.map none)).run P w = .ok y w' ∧ St P η σ w η' (σ.new (.iterM none)) w' ∧ VR η' (.p σ.next 0) y := by
  refine ⟨.pointer (some ⟨w.heap.size, 0, none⟩), _, _, ?_, St.alloc h (.iterM none) (.mapIter none 0 #[] 0) ⟨w.heap.size, 0, 0, 0⟩ rfl ⟨rfl, 0, 0, by simp⟩, by simp only [VR]; exact ⟨⟨w.heap.size, 0, 0, 0⟩, by simp [Env.put], rfl⟩⟩
  simp only [Instr.range, Sem.run_bind, run_under hu, newObj, Sem.run, Sem.run_pure, Result.andThen_ok]

theorem rangeM_some (h : SR P η σ w) {t k e : TypeId} (hu : P.underlying t = some (.map k e)) {id : Nat} {es : List (AV × AV)} (hg : σ.get id = some (.map es)) {x : Value} (hx : VR η (.mp id) x) :
    ∃ y w' η', (Instr.range t x).run P w = .ok y w' ∧ St P η σ w η' (σ.new (.iterM (some id))) w' ∧ VR η' (.p σ.next 0) y := by
  simp only [VR] at hx
  obtain ⟨q, hq, rfl⟩ := hx
  obtain ⟨q', hq', ms, clock, hb, hsz, _⟩ := h.obj _ _ hg
  rw [hq] at hq'; cases hq'
  refine ⟨.pointer (some ⟨w.heap.size, 0, none⟩), _, _, ?_, St.alloc h (.iterM (some id)) (.mapIter (some q.bl) clock #[] clock) ⟨w.heap.size, 0, 0, 0⟩ rfl ⟨rfl, clock, clock, q, (Env.put_le h _).pl _ _ hq, by simp⟩, by simp only [VR]; exact ⟨⟨w.heap.size, 0, 0, 0⟩, by simp [Env.put], rfl⟩⟩
  simp only [Instr.range, Sem.run_bind, run_under hu, newObj, getObj, hb, Sem.run, Sem.run_pure, Result.andThen_ok]

theorem nextM_nil (h : SR P η σ w) {ty : TypeId} {id : Nat} (hg : σ.get id = some (.iterM none)) {x : Value} (hx : VR η (.p id 0) x) :
    (Instr.next x false ty).run P w = .ok (.tuple #[.bool false]) w := by
  simp only [VR] at hx
  obtain ⟨q, hq, rfl⟩ := hx
  obtain ⟨q', hq', h0, since, last, hb⟩ := h.obj _ _ hg
  rw [hq] at hq'; cases hq'
  simp only [h0, Nat.add_zero, Instr.next, Sem.run_bind, getObj, Sem.run, hb, Result.andThen_ok, Sem.run_pure]

theorem nextM_some (h : SR P η σ w) {ty : TypeId} {id m : Nat} (hg : σ.get id = some (.iterM (some m))) (hm : σ.get m = some (.map [])) {x : Value} (hx : VR η (.p id 0) x) :
    (Instr.next x false ty).run P w = .ok (.tuple #[.bool false]) w := by
  simp only [VR] at hx
  obtain ⟨q, hq, rfl⟩ := hx
  obtain ⟨q', hq', h0, since, last, q2, hq2, hb⟩ := h.obj _ _ hg
  rw [hq] at hq'; cases hq'
  obtain ⟨q3, hq3, ms, clock, hb2, hsz, _⟩ := h.obj _ _ hm
  rw [hq2] at hq3; cases hq3
  have hms : ms = #[] := by apply Array.eq_empty_of_size_eq_zero; simpa using hsz
  subst hms
  have hch : (choose (.mapNext 1)).run P w = .ok 0 w := by simp [choose, Sem.run, Question.forced]
  have hf : ∀ p : MapEntry → Bool, (#[] : Array MapEntry).filter p = #[] := fun p => by simp
  have h2 : (if (#[] : Array MapEntry).isEmpty = true then #[none] else (#[] : Array (Option MapEntry))) ++ Array.map some ((#[] : Array MapEntry) ++ #[]) = #[none] := by simp
  simp only [h0, Nat.add_zero, Instr.next, Sem.run_bind, getObj, Sem.run, hb, hb2, Result.andThen_ok, Sem.run_pure, hf, h2]
  have h3 : (#[none] : Array (Option MapEntry)).size = 1 := rfl
  rw [h3, if_neg (by simp)]
  simp only [Sem.run_bind, hch, Result.andThen_ok]
  rfl

theorem next_ok (h : SR P η σ w) {ty : TypeId} {it v : AV} {x : Value} (hs : aNext it σ = some (v, σ')) (hx : VR η it x) :
    ∃ y w', (Instr.next x true ty).run P w = .ok y w' ∧ St P η σ w η σ' w' ∧ VR η v y := by
  unfold aNext at hs
  split at hs
  · next id =>
    split at hs
    · next s pos hg =>
      split at hs
      · next hl =>
        simp only [VR] at hx
        obtain ⟨q, hq, rfl⟩ := hx
        obtain ⟨q', hq', hb, hba⟩ := h.obj _ _ hg
        rw [hq] at hq'; cases hq'
        have hgo : (getObj q.bl).run P w = .ok (.stringIter ⟨⟨s⟩⟩ pos) w := by simp [getObj, Sem.run, hb]
        rw [hba]
        split at hs
        · next hp =>
          cases hs
          refine ⟨.tuple #[.bool true, .int .i64 pos, .int .i32 (Utf8.decode ⟨⟨s⟩⟩ pos).1], _, ?_, St.write h hg rfl hl hq setBlk_size (fun k hk => setBlk_ne hk) rfl rfl rfl ⟨setBlk_at (o' := .stringIter ⟨⟨s⟩⟩ (pos + (Utf8.decode ⟨⟨s⟩⟩ pos).2)) hb, hba⟩, ?_⟩
          · have hp' : pos < (⟨⟨s⟩⟩ : ByteArray).size := hp
            simp only [Instr.next, Nat.add_zero, Sem.run_bind, hgo, Result.andThen_ok, Sem.run_ite, hp', if_true, setObj_ok hb (by simp), Sem.run_pure, goInt]
          · simp only [VR]; exact ⟨_, rfl, VRs.cons (by simp [VR]) (VRs.cons (by simp [VR]) (VRs.cons (by simp [VR]) (by simp [VRs])))⟩
        · next hp =>
          cases hs
          refine ⟨.tuple #[.bool false], w, ?_, St.refl h, by simp only [VR]; exact ⟨_, rfl, VRs.cons (by simp [VR]) (by simp [VRs])⟩⟩
          have hp' : ¬ pos < (⟨⟨s⟩⟩ : ByteArray).size := hp
          simp only [Instr.next, Nat.add_zero, Sem.run_bind, hgo, Result.andThen_ok, Sem.run_ite, hp', if_false, Sem.run_pure]
      · cases hs
    · cases hs
  · cases hs

theorem sliceData_nil {ts : Array TypeId} {ty : TypeId} : (Builtin.unsafeSliceData_ ts ty #[.slice none 0 0]).run P w = .ok (.pointer none) w := rfl
theorem sliceData_some {ts : Array TypeId} {ty : TypeId} {a : Addr} {n c : Nat} (hc : c ≠ 0) : (Builtin.unsafeSliceData_ ts ty #[.slice (some a) n c]).run P w = .ok (.pointer (some a)) w := by
  show (if c ≠ 0 then pure (.pointer (some a)) else _ : Sem Value).run P w = _
  rw [if_pos hc]; rfl

theorem unsafeString_zero {pt it ty : TypeId} {p : Option Addr} : (Builtin.unsafeString_ #[pt, it] ty #[.pointer p, .int .i64 0]).run P w = .ok (.string ⟨⟨[]⟩⟩) w := Lib.run_unsafeString_none w pt it ty p

theorem liesAt_bytes {e : TypeId} (hc : P.cellsOf e = 1) (count off n : Nat) (hn : off + n ≤ count) : liesAt P P.depth e count off e n = true := by
  have hd : P.depth = (2 * (P.types.size + Made.depth) + 1) + 1 := rfl
  rw [hd]
  simp only [liesAt, Bool.or_eq_true]
  left
  rw [hd]
  simp [rowAt, hc, hn, sameLayout, Nat.mod_one]

theorem run_unsafeString_at (pt it ty e : TypeId) (hp : P.underlying pt = some (.pointer e)) (hc : P.cellsOf e = 1) (g off cells : Nat) (hsh : w.shape? g = some (e, cells)) (l : List UInt8) (h0 : l ≠ []) (hn : off + l.length ≤ cells) (h63 : l.length ≤ 9223372036854775807)
    (hcell : ∀ (j : Nat) x, l[j]? = some x → w.cell? ((⟨g, off, none⟩ : Addr).add j) = some (.int .u8 x.toNat)) :
    (Builtin.unsafeString_ #[pt, it] ty #[.pointer (some ⟨g, off, none⟩), .int .i64 l.length]).run P w = .ok (.string ⟨l.toArray⟩) (w.freeze ⟨g, off, none⟩ l.length) := by
  have hl : l.length ≠ 0 := by simpa using h0
  have hlb := Lib.run_loadBytes (P := P) w l ⟨g, off, none⟩ .empty hcell
  have hlies := liesAt_bytes (P := P) hc (cells / P.cellsOf e) off l.length (by rw [hc]; simpa using hn)
  have h63' : ¬ (9223372036854775807 : Int) < (l.length : Int) := by omega
  have hdef : Builtin.unsafeString_ #[pt, it] ty #[.pointer (some ⟨g, off, none⟩), .int .i64 l.length] =
      (do
        let n ← asInt (.int .i64 l.length)
        if n < 0 then runtimePanic (.error "unsafe.String: len out of range")
        if n > IntKind.i64.max then unsupported (.unsafePointer "String: a length above the largest int")
        if n = 0 then pure (.string .empty)
        else if ← variablesAt ⟨g, off, none⟩ (← elemOf pt) n.toNat then do
          let s ← loadBytes ⟨g, off, none⟩ .empty n.toNat
          freeze ⟨g, off, none⟩ n.toNat
          pure (.string s)
        else unsupported (.unsafePointer "String: not so many bytes at ptr")) := rfl
  rw [hdef]
  have hmax : IntKind.i64.max = 9223372036854775807 := rfl
  have hneg : ¬ (l.length : Int) < 0 := by omega
  simp [asInt, asIntOf, hmax, h63', hneg, hl, variablesAt, hsh, elemOf, run_underlying hp, hlies, hlb]

theorem freeze_eq {bl off n : Nat} {cs : Array Value} {elem : TypeId} {fr : Nat × Nat} (h : w.heap[bl]? = some (.cells cs elem fr)) (hn : n ≠ 0) :
    w.freeze ⟨bl, off, none⟩ n = setBlk w bl (.cells cs elem (if fr.1 == fr.2 then (off, off + n) else (min fr.1 off, max fr.2 (off + n)))) := by
  unfold World.freeze setBlk
  rw [if_neg hn]
  congr 1
  apply Array.ext_getElem?; intro i
  rw [Array.getElem?_modify, Array.getElem?_setIfInBounds]
  by_cases e : bl = i
  · subst e
    have : bl < w.heap.size := (Array.getElem?_eq_some_iff.1 h).1
    rw [if_pos rfl, if_pos rfl, if_pos this, h]; rfl
  · rw [if_neg e, if_neg e]

theorem unsafeString_ok (h : SR P η σ w) {t it ty e : TypeId} {id off : Nat} {n : Int} {c r : List AV} {opn : Bool} {b : List UInt8} {q : Place} (hu : P.underlying t = some (.pointer e))
    (hg : σ.get id = some (.cells c e true opn)) (he : e ≠ 0) (hc : P.cellsOf e = 1) (h0 : 0 < n) (h62 : n < 2 ^ 62) (hl : σ.lock ≤ id) (hr : takeN c off n.toNat = some r) (hb : bytesOf r = some b) (hq : η id = some q) :
    ∃ y w', (Builtin.unsafeString_ #[t, it] ty #[.pointer (some ⟨q.bl, q.ba + off, none⟩), .int .i64 n]).run P w = .ok y w' ∧ St P η σ w η (σ.put id (.cells c e false opn)) w' ∧ VR η (.s b) y := by
  obtain ⟨q', hq', cs, elem, fr, hblk, rr⟩ := h.obj _ _ hg
  rw [hq] at hq'; cases hq'
  obtain ⟨w1, w2, w3⟩ := rr.whole he
  subst w1
  have hv := rr.takeVRs hr
  have hxs := bytesOf_ok hb hv
  obtain ⟨hr1, hr2, hr3⟩ := takeN_some hr
  have hfit := rr.fits; have hle := rr.le
  have hlen : b.length = n.toNat := by
    have := hv.length
    rw [hxs, List.length_map] at this; omega
  have hn : ((b.length : Nat) : Int) = n := by omega
  have hrun := run_unsafeString_at (P := P) (w := w) t it ty elem hu hc q.bl (q.ba + off) cs.size (shape_of hblk) b (by intro e1; subst e1; simp at hlen; omega) (by omega) (by omega) (fun j x hj => by
    rw [add_none, cell_eq hblk]
    have h5 : (List.take n.toNat (List.drop (q.ba + off) cs.toList))[j]? = some (Value.int .u8 x.toNat) := by rw [hxs]; simp [hj]
    rw [List.getElem?_take] at h5
    split at h5
    · rw [List.getElem?_drop, Array.getElem?_toList] at h5; exact h5
    · cases h5)
  rw [hn, freeze_eq hblk (by omega)] at hrun
  refine ⟨_, _, hrun, St.write h hg rfl hl hq setBlk_size (fun k hk => setBlk_ne hk) rfl rfl rfl ?_, by simp [VR]⟩
  exact ⟨cs, elem, _, setBlk_at hblk, { rr with free := by simp }⟩

end
end Go.Abs
