/- The contract of PairSpoils: for any arguments of plain data the call says true, and changes nothing; and a witness. Conditions: the row's own two tables, and its reach. -/
import Derived.Test.YtilkjidelblkfaaGreatDoorKJZ
import Derived.Test.YtilkjidelblkfaaGreatDoorKJe
namespace Go.Proofs.YtilkjidelblkfaaGreatDoor
open Go.ChangeShapes Go.WideShapes Go.ChangeAt Go.RowKit Go.Abs
set_option maxRecDepth 100000
set_option linter.unusedVariables false
namespace PairSpoils

theorem tys : argTys Tryz.prog 10 Tryz.f4.params.toList = some [(true, [.int .u64, .int .u64]), (true, [.int .u64, .int .u64]), (false, [.int .u16]), (false, [.int .u8])] := by kernel_rfl
theorem roOk {W : World} (h : Tabs W) : RoOk tabsL (heapRo W) W := by
  refine ⟨fun b o hb => hb, fun p hp => ?_⟩
  simp only [tabsL, List.mem_cons, List.mem_nil_iff, or_false] at hp
  rcases hp with rfl | rfl
  · exact h.first.at'
  · exact h.acc.at'
theorem reads_ok : (Tryz.f4.params.toList.all fun t => Tryz.prog.readableRec t && Nat.blt t Tryz.prog.types.size) = true := by kernel_rfl
theorem laidOut : laidOutB Tryz.prog = true := by kernel_rfl
theorem body : Tryz.f4.body = some J.code4 := by kernel_rfl
theorem contract (H : Type) (enc : TypeId × Value → H) (W : World) (base : Nat) (args : Array Value) (ds gs : List (DataW H)) (before : List MemPlace)
    (hval : ∀ (j : Nat) t v, Tryz.f4.params[j]? = some t → args[j]? = some v → Value.okWide Tryz.prog W .any base t v)
    (hW : DataW.Whole enc Tryz.prog Tryz.f4.params.toList Rows.pairSpoilsSpec.vars false W args.toList ds gs before)
    (hsz : (DataW.weightsEach Tryz.prog (Tryz.f4.params.toList ++ (OpenSpec.ofChange Rows.pairSpoilsSpec).bare.plain.varTypes Tryz.prog) (ds ++ gs)).all (· ≤ reachBytes) = true) (hL : laidMetH Tryz.prog Rows.pairSpoilsRow.laid W) :
    Calls Tryz.prog 4 args W fun e W' => ∃ v, e = .returned v ∧ Rows.pairSpoilsSpec.post enc Tryz.prog Tryz.f4 false true false false W args v W' :=
  law_row names Tryz.func4 body tys laidOut (fun t ht => by have := List.all_eq_true.1 reads_ok t ht; rw [Bool.and_eq_true, Nat.blt_eq] at this; exact this) (by kernel_rfl) Tryz.underlying4 rfl
    (fun ds h => by
      have h : ds.length = 4 := h
      match ds, h with
      | [d1, d2, d3, d4], _ => rfl) (fun gs h => Go.Proofs.YtilkjidelblkfaaGreatDoor.J.lim_ctr 2 gs _ (Go.Proofs.YtilkjidelblkfaaGreatDoor.J.pairSpoils gs h)) hval hW rfl hsz (roOk (tabs hL))

abbrev wArgs : Array Value := #[.agg #[.int .u64 0, .int .u64 0], .agg #[.int .u64 0, .int .u64 0], .int .u16 0, .int .u8 0]
theorem laid_met (os : Os) : laidMet Tryz.prog Rows.pairSpoilsRow.laid ((laidWorld os).forCall (fun _ _ => 0) ⟨#[], wArgs, []⟩).memory :=
  laidMet_of_run' 8 (by kernel_rfl) (by kernel_rfl)
theorem reads (os : Os) {H : Type} (enc : TypeId × Value → H) : ∃ places, DataW.whole enc Tryz.prog ((laidWorld os).forCall (fun _ _ => 0) ⟨#[], wArgs, []⟩).memory Tryz.f4.params.toList Rows.pairSpoilsSpec.vars false wArgs.toList 8 = some ([.agg [.lit (.int .u64 0), .lit (.int .u64 0)], .agg [.lit (.int .u64 0), .lit (.int .u64 0)], .lit (.int .u16 0), .lit (.int .u8 0)], [], places) :=
  ⟨[], by kernel_rfl⟩

theorem lifted (os : Os) (started : os.Started) (H : Type) (enc : TypeId × Value → H) (F : Stop.Interp) :
    ReturnsInHanded {} Tryz.checked os 4 .any ((OpenSpec.ofChange Rows.pairSpoilsSpec).preRow enc Tryz.prog Tryz.f4 Rows.pairSpoilsRow.domain false Rows.pairSpoilsRow.laid) (((OpenSpec.ofChange Rows.pairSpoilsSpec).at F).post enc Tryz.prog Tryz.f4 false true false false) := by
  obtain ⟨places, hx⟩ := reads os enc
  refine returnsInHanded_of_row (C := Tryz.checked) (s := OpenSpec.ofChange Rows.pairSpoilsSpec) own started (by as_aux_lemma => kernel_rfl) Tryz.func4
    (witness_row_at (enc := enc) (C := Tryz.checked) false (laidWorld os) wArgs rfl (by as_aux_lemma => kernel_rfl) (by as_aux_lemma => kernel_rfl) (by as_aux_lemma => kernel_rfl)
      (OpenSpec.preRow_of_cond 8 hx (by as_aux_lemma => kernel_rfl) (fun k hk => by cases hk) (by as_aux_lemma => kernel_rfl) (laid_met os))) ?_
  intro W base args ds gs before hval hW _ _ hsz hL hsh _
  exact contract H enc W base args ds gs before hval hW hsz hL

end PairSpoils
end Go.Proofs.YtilkjidelblkfaaGreatDoor
