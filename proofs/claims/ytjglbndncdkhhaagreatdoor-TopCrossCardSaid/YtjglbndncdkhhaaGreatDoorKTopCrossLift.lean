/- The contract of TopCross: for any arguments of plain data the call says true, and changes nothing; and a witness. Conditions: the row's own two tables, and its reach. -/
import Derived.Test.YtjglbndncdkhhaaGreatDoorKUZ
import Derived.Test.YtjglbndncdkhhaaGreatDoorKUe
namespace Go.Proofs.YtjglbndncdkhhaaGreatDoor
open Go.ChangeShapes Go.WideShapes Go.ChangeAt Go.RowKit Go.aN
set_option maxRecDepth 100000
set_option linter.unusedVariables false
namespace TopCross
theorem tys:argTys Tryz.prog 10 Tryz.f3.params.toList=some [(true,[.int .i64,.int .u64,.int .u64,.int .u64,.int .u64,.int .u64,.int .u64,.int .u64,.int .u64,.int .u64,.int .u64,.int .u64,.int .u64,.int .u64,.int .u64,.int .u64,.int .i64,.bool,.str,.str,.str,.list true [.str,.str],.list true [.list true [.str,.str],.int .u64],.list true [.int .u8,.int .u64,.int .i8,.int .u64,.str]]),(true,[.int .i64,.int .u64,.int .u64,.int .u64,.int .u64,.int .u64,.int .u64,.int .u64,.int .u64,.int .u64,.int .u64,.int .u64,.int .u64,.int .u64,.int .u64,.int .u64,.int .i64,.bool,.str,.str,.str,.list true [.str,.str],.list true [.list true [.str,.str],.int .u64],.list true [.int .u8,.int .u64,.int .i8,.int .u64,.str]]),(false,[.int .u8]),(false,[.list false [.str]])]:=by kernel_rfl
theorem Qp {W:World} (h:Tabs W):vI fQ (xk W) W:=by
 refine ⟨λb o hb=>hb,λp hp=>?_⟩;simp only [fQ,bU,Fe,or_false] at hp;rcases hp with rfl | rfl
 ·exact h.first.at'
 ·exact h.acc.at'
theorem ang:(Tryz.f3.params.toList.all λt=>Tryz.prog.readableRec t&&Nat.blt t Tryz.prog.types.size)=true:=by kernel_rfl
theorem laidOut:laidOutB Tryz.prog=true:=by kernel_rfl
theorem body:Tryz.f3.body=some U.agq:=by kernel_rfl
theorem contract (H:Type) (enc:TypeId×Value->H) (W:World) (base:Nat) (args:Array Value) (ds gs:List (DataW H)) (before:List MemPlace)
 (hval:∀ (j:Nat) t v,Tryz.f3.params[j]? = some t->args[j]? = some v->Value.okWide Tryz.prog W .any base t v)
 (hW:DataW.Whole enc Tryz.prog Tryz.f3.params.toList Rows.topCrossSpec.vars false W args.toList ds gs before)
 (hsz:(DataW.weightsEach Tryz.prog (Tryz.f3.params.toList++(OpenSpec.ofChange Rows.topCrossSpec).bare.plain.varTypes Tryz.prog) (ds++gs)).all (·<=reachBytes)=true) (hL:laidMetH Tryz.prog Rows.topCrossRow.laid W) :
 Calls Tryz.prog 3 args W λe W'=>∃v,e=.returned v/\Rows.topCrossSpec.post enc Tryz.prog Tryz.f3 false true false false W args v W':=
 akf names Tryz.func3 body tys laidOut (λt ht=>by have:=List.all_eq_true.1 ang t ht;rw [aI,iZ] at this;exact this) (by kernel_rfl) Tryz.underlying4 rfl
  (λds h=>by
   have h:ds.length=4:=h;match ds,h with
   | [d1,d2,d3,d4],_=>rfl) (λgs h=>Go.Proofs.YtjglbndncdkhhaaGreatDoor.U.aki 1 gs _ (Go.Proofs.YtjglbndncdkhhaaGreatDoor.U.topCross gs h)) hval hW rfl hsz (Qp (tabs hL))
abbrev Ri:Array Value:=#[.agg #[.int .i64 0,.int .u64 0,.int .u64 0,.int .u64 0,.int .u64 0,.int .u64 0,.int .u64 0,.int .u64 0,.int .u64 0,.int .u64 0,.int .u64 0,.int .u64 0,.int .u64 0,.int .u64 0,.int .u64 0,.int .u64 0,.int .i64 0,.bool false,.string ⟨#[]⟩,.string ⟨#[]⟩,.string ⟨#[]⟩,.slice none 0 0,.slice none 0 0,.slice none 0 0],.agg #[.int .i64 0,.int .u64 0,.int .u64 0,.int .u64 0,.int .u64 0,.int .u64 0,.int .u64 0,.int .u64 0,.int .u64 0,.int .u64 0,.int .u64 0,.int .u64 0,.int .u64 0,.int .u64 0,.int .u64 0,.int .u64 0,.int .i64 0,.bool false,.string ⟨#[]⟩,.string ⟨#[]⟩,.string ⟨#[]⟩,.slice none 0 0,.slice none 0 0,.slice none 0 0],.int .u8 0,.slice none 0 0]
theorem laid_met (os:Os):laidMet Tryz.prog Rows.topCrossRow.laid ((laidWorld os).forCall (λ_ _=>0) ⟨#[],Ri,[]⟩).memory:=
 laidMet_of_run' 8 (by kernel_rfl) (by kernel_rfl)
theorem reads (os:Os) {H:Type} (enc:TypeId×Value->H):∃places,DataW.whole enc Tryz.prog ((laidWorld os).forCall (λ_ _=>0) ⟨#[],Ri,[]⟩).memory Tryz.f3.params.toList Rows.topCrossSpec.vars false Ri.toList 8=some ([.agg [.agg [.lit (.int .i64 0),.lit (.int .u64 0),.lit (.int .u64 0),.lit (.int .u64 0),.lit (.int .u64 0),.lit (.int .u64 0),.lit (.int .u64 0),.lit (.int .u64 0),.lit (.int .u64 0),.lit (.int .u64 0),.lit (.int .u64 0),.lit (.int .u64 0),.lit (.int .u64 0),.lit (.int .u64 0),.lit (.int .u64 0),.lit (.int .u64 0),.lit (.int .i64 0),.lit (.bool false),.lit (.string []),.lit (.string []),.lit (.string []),.nil,.nil],.nil],.agg [.agg [.lit (.int .i64 0),.lit (.int .u64 0),.lit (.int .u64 0),.lit (.int .u64 0),.lit (.int .u64 0),.lit (.int .u64 0),.lit (.int .u64 0),.lit (.int .u64 0),.lit (.int .u64 0),.lit (.int .u64 0),.lit (.int .u64 0),.lit (.int .u64 0),.lit (.int .u64 0),.lit (.int .u64 0),.lit (.int .u64 0),.lit (.int .u64 0),.lit (.int .i64 0),.lit (.bool false),.lit (.string []),.lit (.string []),.lit (.string []),.nil,.nil],.nil],.lit (.int .u8 0),.nil],[],places):=
 ⟨[],by kernel_rfl⟩
theorem lifted (os:Os) (started:os.Started) (H:Type) (enc:TypeId×Value->H) (F:Stop.Interp) :
 ReturnsInHanded {} Tryz.checked os 3 .any ((OpenSpec.ofChange Rows.topCrossSpec).preRow enc Tryz.prog Tryz.f3 Rows.topCrossRow.domain false Rows.topCrossRow.laid) (((OpenSpec.ofChange Rows.topCrossSpec).at F).post enc Tryz.prog Tryz.f3 false true false false):=by
 obtain ⟨places,hx⟩:=reads os enc
 refine returnsInHanded_of_row (C:=Tryz.checked) (s:=OpenSpec.ofChange Rows.topCrossSpec) own started (by as_aux_lemma=>kernel_rfl) Tryz.func3
  (witness_row_at (enc:=enc) (C:=Tryz.checked) false (laidWorld os) Ri rfl (by as_aux_lemma=>kernel_rfl) (by as_aux_lemma=>kernel_rfl) (by as_aux_lemma=>kernel_rfl)
   (OpenSpec.preRow_of_cond 8 hx (by as_aux_lemma=>kernel_rfl) (λk hk=>by cases hk) (by as_aux_lemma=>kernel_rfl) (laid_met os))) ?_
 intro W base args ds gs before hval hW _ _ hsz hL _ _;exact contract H enc W base args ds gs before hval hW hsz hL
end TopCross
end Go.Proofs.YtjglbndncdkhhaaGreatDoor
