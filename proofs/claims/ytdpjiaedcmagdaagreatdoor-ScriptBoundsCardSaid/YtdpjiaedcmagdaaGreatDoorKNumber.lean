/- script.number: a walk over the kit's contracts of ContainsFunc and ParseUint. -/
import Derived.Test.YtdpjiaedcmagdaaGreatDoorProg
import Derived.Test.YtdpjiaedcmagdaaGreatDoorKRBase
import Derived.Test.YtdpjiaedcmagdaaGreatDoorAbsScr
import Derived.Shelf.Lay
import Derived.Ground.GgwProg
import Derived.Ground.MpProg
import Derived.Shelf.GgClosure.StringsIndexFuncTop
import Derived.Shelf.Pu.ErrVarParseUint
import Derived.WalkKit
namespace Go.Proofs
open Go.Shelf
shelf_lay LaysGw.n17 Ggw 17 at Tryz as Tryz.laysContains
shelf_lay LaysPu.n14 Mp 14 at Tryz as Tryz.laysParseU
end Go.Proofs
namespace Go.Proofs.YtdpjiaedcmagdaaGreatDoor
open Go.Shelf Go.RowKit Go.Lib Go.Abs
set_option maxRecDepth 100000
theorem odd_pred (w : World) : PredAt Tryz.prog 74 #[] encR oddR w := fun W x _ => by
  unfold FnGives
  have z1 : ((x : Int) < 48) ↔ x < 48 := by omega
  have z2 : ((57 : Int) < (x : Int)) ↔ 57 < x := by omega
  by_cases h1 : x < 48 <;> by_cases h2 : 57 < x
  all_goals
    go_enter Tryz.func74, Tryz.ntmps74
    go_wp2
    all_goals first | (exfalso; omega) | (go_ret; exact ⟨by simp [oddR, h1, h2], 0, rfl⟩)
/-- What ParseUint answers. -/
def numV (l : List UInt8) (v : Value) : Prop := match Lib.parseUintB 64 l with
  | .ok u => v = .tuple #[.int .u64 u, .nilIface]
  | _ => ∃ (k : Int) (t : TypeId) (x : Value), v = .tuple #[.int .u64 k, .iface t x]
theorem parse_walk (s : ByteArray) (w : World) {ro : Nat → Option Obj} (hro : RoOk tabsL ro w) (hl : s.size ≤ 281474976710656) : Calls Tryz.prog 75 #[.string s, .int .i64 10, .int .i64 64] w fun e w' => ∃ v, e = .returned v ∧ numV s.data.toList v ∧ Below w.heap.size w w' := by
  unfold numV
  cases hp : Lib.parseUintB 64 s.data.toList with
  | ok u =>
    refine (Any.strconv_ParseUint_10_at64_ok Tryz.laysParseU s (by omega) u hp w).mono ?_
    rintro e w' ⟨rfl, hw⟩
    refine ⟨_, rfl, rfl, ?_⟩
    rcases hw with rfl | rfl
    · exact Below.refl _ _
    · exact Lib.bytesWorld_below _ _ _
  | «syntax» =>
    obtain ⟨t, q, hc⟩ := RoOk.iface hro (g := 6) (by simp [tabsL])
    refine (Any.strconv_ParseUint_10_at64_syntax Tryz.laysParseU s hl hp (.iface t q) w hc (Or.inr ⟨t, q, rfl⟩)).mono ?_
    rintro e w' ⟨N, rfl, -, -, hb⟩
    exact ⟨_, rfl, ⟨_, _, _, rfl⟩, hb⟩
  | range =>
    obtain ⟨t, q, hc⟩ := RoOk.iface hro (g := 7) (by simp [tabsL])
    refine (Any.strconv_ParseUint_10_at64_range Tryz.laysParseU s hl hp (.iface t q) w hc (Or.inr ⟨t, q, rfl⟩)).mono ?_
    rintro e w' ⟨N, rfl, -, -, hb⟩
    exact ⟨_, rfl, ⟨_, _, _, rfl⟩, hb⟩
set_option maxHeartbeats 4000000 in
theorem number_walk (s : ByteArray) (w : World) {ro : Nat → Option Obj} (hro : RoOk tabsL ro w) (hl : s.size ≤ 281474976710656) : Calls Tryz.prog 55 #[.string s] w fun e w' => e = .returned (.tuple #[.int .u64 ((numF s.data.toList).1 : Nat), .int .i64 (numF s.data.toList).2]) ∧ Below w.heap.size w w' := by
  have e61 : ∀ args w, (callFunc 52 args).run Tryz.prog w = .ok (.enter 52 args) w := enters_of Tryz.func52 (by kernel_rfl) rfl
  have e62 : ∀ args w, (callFunc 75 args).run Tryz.prog w = .ok (.enter 75 args) w := enters_of Tryz.func75 (by kernel_rfl) rfl
  have hcf : ∀ W, Calls Tryz.prog 52 #[.string s, .func (.func 74) #[] #[]] W fun e w' => e = .returned (.bool (!digB s.data.toList)) ∧ Below W.heap.size W w' := fun W => by
    refine (Any.strings_ContainsFunc Tryz.laysContains 74 #[] (enters_of Tryz.func74 (by kernel_rfl) rfl) oddR s W (odd_pred W)).mono ?_
    rintro e w' ⟨rfl, h⟩
    rw [odd_idx]; exact ⟨rfl, h⟩
  have hpu : ∀ W, Below w.heap.size w W → Calls Tryz.prog 75 #[.string s, .int .i64 10, .int .i64 64] W fun e w' => ∃ v, e = .returned v ∧ numV s.data.toList v ∧ Below W.heap.size W w' := fun W hW => parse_walk s W (ro := roAll ro w W) { at' := (roStep_all hro hW).at', tab := fun p hp => by obtain ⟨cs, elem, fr, h1, h2⟩ := hro.tab p hp; exact ⟨cs, elem, fr, (roStep_all hro hW).le _ _ h1, h2⟩ } hl
  clear hro
  by_cases h0 : s.size = 0
  · have hs : s = ⟨#[]⟩ := ByteArray.ext (Array.eq_empty_of_size_eq_zero h0)
    subst hs
    go_enter Tryz.func55, Tryz.ntmps55
    go_wp2
    go_ret2
    exact ⟨rfl, Below.refl _ _⟩
  have hne : s.data.toList ≠ [] := fun e => h0 (by have : s.data.toList.length = 0 := by rw [e]; rfl
                                                   simpa using this)
  have hie : s.toList.isEmpty = false := by
    rw [Lib.toList_data]
    cases h : s.data.toList with
    | nil => exact absurd h hne
    | cons a l => rfl
  have hbad : ∀ h : digB s.data.toList = false ∨ (1 < s.data.toList.length ∧ s.data.toList[0]? = some 48), numF s.data.toList = (0, 23) := fun h => by unfold numF; rw [if_pos (.inr h)]
  cases hd : digB s.data.toList with
  | false =>
    rw [hd] at hcf
    rw [hbad (.inl hd)]
    go_enter Tryz.func55, Tryz.ntmps55
    go_wp2_with (go_at_fn 52; refine (hcf _).mono ?_; rintro e w1 ⟨rfl, hb1⟩)
    go_ret2
    exact ⟨rfl, hb1⟩
  | true =>
    rw [hd] at hcf
    by_cases hz : 1 < s.data.toList.length ∧ s.data.toList[0]? = some 48
    · rw [hbad (.inr hz)]
      obtain ⟨h1, h2⟩ := hz
      have h1' : (1 : Int) < (s.size : Int) := by
        have : s.data.toList.length = s.size := by simp
        omega
      have hq : ∀ h : 0 < s.size, (((s[0]'h).toNat : Int) == 48) = true := fun h => by
        rw [get_byte s h] at h2
        rw [Option.some.inj h2]
        rfl
      go_enter Tryz.func55, Tryz.ntmps55
      go_wp2_with (go_at_fn 52; refine (hcf _).mono ?_; rintro e w1 ⟨rfl, hb1⟩)
      go_ret2
      exact ⟨rfl, hb1⟩
    · have hgood : (∀ u, Lib.parseUintB 64 s.data.toList = .ok u → numF s.data.toList = (u, 0)) ∧ ((∀ u, Lib.parseUintB 64 s.data.toList ≠ .ok u) → numF s.data.toList = (0, 3)) := by
        unfold numF
        rw [if_neg (fun h => by
          rcases h with h | h | h
          · exact hne h
          · rw [hd] at h; cases h
          · exact hz h)]
        refine ⟨fun u hu => by rw [hu], fun hn => ?_⟩
        split
        · next u hu => exact absurd hu (hn u)
        · rfl
      have hbad2 : ∀ W, Below w.heap.size w W → (∀ u, Lib.parseUintB 64 s.data.toList ≠ .ok u) → Calls Tryz.prog 75 #[.string s, .int .i64 10, .int .i64 64] W fun e w' => ∃ k t x, e = .returned (.tuple #[.int .u64 k, .iface t x]) ∧ Below W.heap.size W w' := fun W hW hn => by
        refine (hpu W hW).mono ?_
        rintro e w' ⟨v, rfl, hv, hb⟩
        unfold numV at hv
        split at hv
        · next u hu => exact absurd hu (hn u)
        · obtain ⟨k, t, x, rfl⟩ := hv
          exact ⟨k, t, x, rfl, hb⟩
      have hok2 : ∀ W u, Below w.heap.size w W → Lib.parseUintB 64 s.data.toList = .ok u → Calls Tryz.prog 75 #[.string s, .int .i64 10, .int .i64 64] W fun e w' => e = .returned (.tuple #[.int .u64 u, .nilIface]) ∧ Below W.heap.size W w' := fun W u hW hu => by
        refine (hpu W hW).mono ?_
        rintro e w' ⟨v, rfl, hv, hb⟩
        unfold numV at hv
        rw [hu] at hv
        exact ⟨by rw [hv], hb⟩
      clear hpu hbad
      obtain ⟨hg1, hg2⟩ := hgood
      by_cases h1 : (1 : Int) < (s.size : Int)
      · have hq : ∀ h : 0 < s.size, (((s[0]'h).toNat : Int) == 48) = false := fun h => by
          cases he : (((s[0]'h).toNat : Int) == 48) with
          | false => rfl
          | true =>
            have h48 : (s[0]'h).toNat = 48 := by
              have := eq_of_beq he
              omega
            refine absurd ⟨?_, ?_⟩ hz
            · have : s.data.toList.length = s.size := by simp
              omega
            · rw [get_byte s h]
              exact congrArg some (UInt8.toNat_inj.1 h48)
        cases hp : Lib.parseUintB 64 s.data.toList with
        | ok u =>
          rw [hg1 u hp]
          clear hg1 hg2
          go_enter Tryz.func55, Tryz.ntmps55
          go_wp2_with (first
            | (go_at_fn 52; refine (hcf _).mono ?_; rintro e w1 ⟨rfl, hb1⟩)
            | (go_at_fn 75; refine (hok2 _ u hb1 hp).mono ?_; rintro e w2 ⟨rfl, hb2⟩))
          go_ret2
          exact ⟨rfl, hb1.trans (hb2.mono hb1.size)⟩
        | «syntax» =>
          have hn : ∀ u, Lib.parseUintB 64 s.data.toList ≠ .ok u := fun u e => by rw [hp] at e; cases e
          rw [hg2 hn]
          clear hg1 hg2
          go_enter Tryz.func55, Tryz.ntmps55
          go_wp2_with (first
            | (go_at_fn 52; refine (hcf _).mono ?_; rintro e w1 ⟨rfl, hb1⟩)
            | (go_at_fn 75; refine (hbad2 _ hb1 hn).mono ?_; rintro e w2 ⟨k, t, x, rfl, hb2⟩))
          go_ret2
          exact ⟨rfl, hb1.trans (hb2.mono hb1.size)⟩
        | range =>
          have hn : ∀ u, Lib.parseUintB 64 s.data.toList ≠ .ok u := fun u e => by rw [hp] at e; cases e
          rw [hg2 hn]
          clear hg1 hg2
          go_enter Tryz.func55, Tryz.ntmps55
          go_wp2_with (first
            | (go_at_fn 52; refine (hcf _).mono ?_; rintro e w1 ⟨rfl, hb1⟩)
            | (go_at_fn 75; refine (hbad2 _ hb1 hn).mono ?_; rintro e w2 ⟨k, t, x, rfl, hb2⟩))
          go_ret2
          exact ⟨rfl, hb1.trans (hb2.mono hb1.size)⟩
      · cases hp : Lib.parseUintB 64 s.data.toList with
        | ok u =>
          rw [hg1 u hp]
          clear hg1 hg2
          go_enter Tryz.func55, Tryz.ntmps55
          go_wp2_with (first
            | (go_at_fn 52; refine (hcf _).mono ?_; rintro e w1 ⟨rfl, hb1⟩)
            | (go_at_fn 75; refine (hok2 _ u hb1 hp).mono ?_; rintro e w2 ⟨rfl, hb2⟩))
          go_ret2
          exact ⟨rfl, hb1.trans (hb2.mono hb1.size)⟩
        | «syntax» =>
          have hn : ∀ u, Lib.parseUintB 64 s.data.toList ≠ .ok u := fun u e => by rw [hp] at e; cases e
          rw [hg2 hn]
          clear hg1 hg2
          go_enter Tryz.func55, Tryz.ntmps55
          go_wp2_with (first
            | (go_at_fn 52; refine (hcf _).mono ?_; rintro e w1 ⟨rfl, hb1⟩)
            | (go_at_fn 75; refine (hbad2 _ hb1 hn).mono ?_; rintro e w2 ⟨k, t, x, rfl, hb2⟩))
          go_ret2
          exact ⟨rfl, hb1.trans (hb2.mono hb1.size)⟩
        | range =>
          have hn : ∀ u, Lib.parseUintB 64 s.data.toList ≠ .ok u := fun u e => by rw [hp] at e; cases e
          rw [hg2 hn]
          clear hg1 hg2
          go_enter Tryz.func55, Tryz.ntmps55
          go_wp2_with (first
            | (go_at_fn 52; refine (hcf _).mono ?_; rintro e w1 ⟨rfl, hb1⟩)
            | (go_at_fn 75; refine (hbad2 _ hb1 hn).mono ?_; rintro e w2 ⟨k, t, x, rfl, hb2⟩))
          go_ret2
          exact ⟨rfl, hb1.trans (hb2.mono hb1.size)⟩
theorem number_ok {gs out : List GV} (h : numberP gs = some out) : FnC Tryz.prog tabsL 55 [] [.sc, .sc] gs out := by
  unfold numberP at h
  split at h
  rotate_left
  · cases h
  next x =>
  split at h
  rotate_left
  · cases h
  next hc =>
  cases h
  letI : TabsOf := Tg [] [] 0
  refine ⟨fun ro w vs hro hvs => ?_, rfl⟩
  simp only [GRs, GR] at hvs
  obtain ⟨_, _, rfl, rfl, rfl⟩ := hvs
  refine .inr ⟨enters_of Tryz.func55 (by kernel_rfl) rfl _ w, Calls.mono' (number_walk ⟨⟨x⟩⟩ w hro hc) ?_⟩
  rintro e w' ⟨rfl, hb⟩
  exact ⟨_, rfl, roAll ro w w', roStep_all hro hb, [_, _], rfl, by simp [GRs, GR]⟩
end Go.Proofs.YtdpjiaedcmagdaaGreatDoor
