/- The contract of SessionAgrees: for any arguments of plain data the call says true, and changes nothing; and a witness. Conditions: the row's own two tables, and its reach. -/
import Derived.Test.YtilkjidelblkfaaGreatDoorKMZ
import Derived.Test.YtilkjidelblkfaaGreatDoorKMe
namespace Go.Proofs.YtilkjidelblkfaaGreatDoor
open Go.ChangeShapes Go.WideShapes Go.ChangeAt Go.RowKit Go.aJ
set_option maxRecDepth 100000
set_option linter.unusedVariables false
namespace SessionAgrees
theorem tys:argTys Tryz.prog 10 Tryz.f3.params.toList=some [(true,[.int .u64,.int .u64]),(true,[.int .u64,.int .u64]),(false,[.list true [.int .u8,.int .u8,.int .u8,.int .u64,.list true [.list true [.str,.str],.int .u64],.int .u16,.int .u8,.str]])]:=by kernel_rfl
theorem Rt {W:World} (h:Tabs W):wR fB (xZ W) W:=by
 refine ⟨λb o hb=>hb,λp hp=>?_⟩;simp only [fB,bC,D5,or_false] at hp;rcases hp with rfl | rfl
 ·exact h.first.at'
 ·exact h.acc.at'
theorem apR:(Tryz.f3.params.toList.all λt=>Tryz.prog.readableRec t&&Nat.blt t Tryz.prog.types.size)=true:=by kernel_rfl
theorem laidOut:laidOutB Tryz.prog=true:=by kernel_rfl
theorem body:Tryz.f3.body=some M.ah0:=by kernel_rfl
theorem contract (H:Type) (enc:TypeId×Value->H) (W:World) (base:Nat) (args:Array Value) (ds gs:List (DataW H)) (before:List MemPlace)
 (hval:∀ (j:Nat) t v,Tryz.f3.params[j]? = some t->args[j]? = some v->Value.okWide Tryz.prog W .any base t v)
 (hW:DataW.Whole enc Tryz.prog Tryz.f3.params.toList Rows.sessionAgreesSpec.vars false W args.toList ds gs before)
 (hsz:(DataW.weightsEach Tryz.prog (Tryz.f3.params.toList++(OpenSpec.ofChange Rows.sessionAgreesSpec).bare.plain.varTypes Tryz.prog) (ds++gs)).all (·<=reachBytes)=true) (hL:laidMetH Tryz.prog Rows.sessionAgreesRow.laid W) :
 Calls Tryz.prog 3 args W λe W'=>∃v,e=.returned v/\Rows.sessionAgreesSpec.post enc Tryz.prog Tryz.f3 false true false false W args v W':=
 amH names Tryz.func3 body tys laidOut (λt ht=>by have:=List.all_eq_true.1 apR t ht;rw [aI,iK] at this;exact this) (by kernel_rfl) Tryz.underlying4 rfl
  (λds h=>by
   have h:ds.length=3:=h;match ds,h with
   | [d1,d2,d3],_=>rfl) (λgs h=>Go.Proofs.YtilkjidelblkfaaGreatDoor.M.amJ 1 gs _ (Go.Proofs.YtilkjidelblkfaaGreatDoor.M.sessionAgrees gs h)) hval hW rfl hsz (Rt (tabs hL))
abbrev S9:Array Value:=#[.agg #[.int .u64 0,.int .u64 0],.agg #[.int .u64 0,.int .u64 0],.slice none 0 0]
theorem laid_met (os:Os):laidMet Tryz.prog Rows.sessionAgreesRow.laid ((laidWorld os).forCall (λ_ _=>0) ⟨#[],S9,[]⟩).memory:=
 laidMet_of_run' 8 (by kernel_rfl) (by kernel_rfl)
theorem reads (os:Os) {H:Type} (enc:TypeId×Value->H):∃places,DataW.whole enc Tryz.prog ((laidWorld os).forCall (λ_ _=>0) ⟨#[],S9,[]⟩).memory Tryz.f3.params.toList Rows.sessionAgreesSpec.vars false S9.toList 8=some ([.agg [.lit (.int .u64 0),.lit (.int .u64 0)],.agg [.lit (.int .u64 0),.lit (.int .u64 0)],.nil],[],places):=
 ⟨[],by kernel_rfl⟩
theorem lifted (os:Os) (started:os.Started) (H:Type) (enc:TypeId×Value->H) (F:Stop.Interp) :
 ReturnsInHanded {} Tryz.checked os 3 .any ((OpenSpec.ofChange Rows.sessionAgreesSpec).preRow enc Tryz.prog Tryz.f3 Rows.sessionAgreesRow.domain false Rows.sessionAgreesRow.laid) (((OpenSpec.ofChange Rows.sessionAgreesSpec).at F).post enc Tryz.prog Tryz.f3 false true false false):=by
 obtain ⟨places,hx⟩:=reads os enc
 refine returnsInHanded_of_row (C:=Tryz.checked) (s:=OpenSpec.ofChange Rows.sessionAgreesSpec) own started (by as_aux_lemma=>kernel_rfl) Tryz.func3
  (witness_row_at (enc:=enc) (C:=Tryz.checked) false (laidWorld os) S9 rfl (by as_aux_lemma=>kernel_rfl) (by as_aux_lemma=>kernel_rfl) (by as_aux_lemma=>kernel_rfl)
   (OpenSpec.preRow_of_cond 8 hx (by as_aux_lemma=>kernel_rfl) (λk hk=>by cases hk) (by as_aux_lemma=>kernel_rfl) (laid_met os))) ?_
 intro W base args ds gs before hval hW _ _ hsz hL hsh _;exact contract H enc W base args ds gs before hval hW hsz hL
end SessionAgrees
end Go.Proofs.YtilkjidelblkfaaGreatDoor
