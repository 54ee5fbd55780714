/- The contract of SenderPlays: for any arguments of plain data the call says true, and changes nothing; and a witness. Conditions: the row's own two tables, and its reach. -/
import Derived.Test.YtbcpbplkgknnmaaGreatDoorKXZ
import Derived.Test.YtbcpbplkgknnmaaGreatDoorKXe
namespace Go.Proofs.YtbcpbplkgknnmaaGreatDoor
open Go.ChangeShapes Go.WideShapes Go.ChangeAt Go.RowKit Go.Abs
set_option maxRecDepth 100000
set_option linter.unusedVariables false
namespace SenderPlays

theorem tys : argTys Tryz.prog 10 Tryz.f8.params.toList = some [(false, [.int .i64]), (false, [.list true [.int .u8, .int .u64, .list true [.list true [.str, .str], .int .u64], .int .u64, .int .i64]])] := by kernel_rfl
theorem roOk {W : World} (h : Tabs W) : RoOk tabsL (heapRo W) W := by
  refine ⟨fun b o hb => hb, fun p hp => ?_⟩
  simp only [tabsL, List.mem_cons, List.mem_nil_iff, or_false] at hp
  rcases hp with rfl | rfl
  · exact h.first.at'
  · exact h.acc.at'
theorem reads_ok : (Tryz.f8.params.toList.all fun t => Tryz.prog.readableRec t && Nat.blt t Tryz.prog.types.size) = true := by kernel_rfl
theorem laidOut : laidOutB Tryz.prog = true := by kernel_rfl
theorem body : Tryz.f8.body = some X.code8 := by kernel_rfl
theorem contract (H : Type) (enc : TypeId × Value → H) (W : World) (base : Nat) (args : Array Value) (ds gs : List (DataW H)) (before : List MemPlace)
    (hval : ∀ (j : Nat) t v, Tryz.f8.params[j]? = some t → args[j]? = some v → Value.okWide Tryz.prog W .any base t v)
    (hW : DataW.Whole enc Tryz.prog Tryz.f8.params.toList Rows.senderPlaysSpec.vars false W args.toList ds gs before)
    (hsz : (DataW.weightsEach Tryz.prog (Tryz.f8.params.toList ++ (OpenSpec.ofChange Rows.senderPlaysSpec).bare.plain.varTypes Tryz.prog) (ds ++ gs)).all (· ≤ reachBytes) = true) (hL : laidMetH Tryz.prog Rows.senderPlaysRow.laid W) :
    Calls Tryz.prog 8 args W fun e W' => ∃ v, e = .returned v ∧ Rows.senderPlaysSpec.post enc Tryz.prog Tryz.f8 false true false false W args v W' :=
  law_row names Tryz.func8 body tys laidOut (fun t ht => by have := List.all_eq_true.1 reads_ok t ht; rw [Bool.and_eq_true, Nat.blt_eq] at this; exact this) (by kernel_rfl) Tryz.underlying4 rfl
    (fun ds h => by
      have h : ds.length = 2 := h
      match ds, h with
      | [d1, d2], _ => rfl) (fun gs h => X.lim_ctr 0 gs _ (X.senderPlays gs h)) hval hW rfl hsz (roOk (tabs hL))

abbrev wArgs : Array Value := #[.int .i64 0, .slice none 0 0]
theorem laid_met (os : Os) : laidMet Tryz.prog Rows.senderPlaysRow.laid ((laidWorld os).forCall (fun _ _ => 0) ⟨#[], wArgs, []⟩).memory :=
  laidMet_of_run' 8 (by kernel_rfl) (by kernel_rfl)
theorem reads (os : Os) {H : Type} (enc : TypeId × Value → H) : ∃ places, DataW.whole enc Tryz.prog ((laidWorld os).forCall (fun _ _ => 0) ⟨#[], wArgs, []⟩).memory Tryz.f8.params.toList Rows.senderPlaysSpec.vars false wArgs.toList 8 = some ([.lit (.int .i64 0), .nil], [], places) :=
  ⟨[], by kernel_rfl⟩

theorem lifted (os : Os) (started : os.Started) (H : Type) (enc : TypeId × Value → H) (F : Stop.Interp) :
    ReturnsInHanded {} Tryz.checked os 8 .any ((OpenSpec.ofChange Rows.senderPlaysSpec).preRow enc Tryz.prog Tryz.f8 Rows.senderPlaysRow.domain false Rows.senderPlaysRow.laid) (((OpenSpec.ofChange Rows.senderPlaysSpec).at F).post enc Tryz.prog Tryz.f8 false true false false) := by
  obtain ⟨places, hx⟩ := reads os enc
  refine returnsInHanded_of_row (C := Tryz.checked) (s := OpenSpec.ofChange Rows.senderPlaysSpec) own started (by as_aux_lemma => kernel_rfl) Tryz.func8
    (witness_row_at (enc := enc) (C := Tryz.checked) false (laidWorld os) wArgs rfl (by as_aux_lemma => kernel_rfl) (by as_aux_lemma => kernel_rfl) (by as_aux_lemma => kernel_rfl)
      (OpenSpec.preRow_of_cond 8 hx (by as_aux_lemma => kernel_rfl) (fun k hk => by cases hk) (by as_aux_lemma => kernel_rfl) (laid_met os))) ?_
  intro W base args ds gs before hval hW _ _ hsz hL _ _
  exact contract H enc W base args ds gs before hval hW hsz hL

end SenderPlays
end Go.Proofs.YtbcpbplkgknnmaaGreatDoor
