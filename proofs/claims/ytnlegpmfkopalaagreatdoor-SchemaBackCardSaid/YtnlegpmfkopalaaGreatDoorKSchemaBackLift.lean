/- The contract of SchemaBack: for any arguments of plain data the call says true, and changes nothing; and a witness. Conditions: the row's own two tables, and its reach. -/
import Derived.Test.YtnlegpmfkopalaaGreatDoorKSZ
import Derived.Test.YtnlegpmfkopalaaGreatDoorKSe
namespace Go.Proofs.YtnlegpmfkopalaaGreatDoor
open Go.ChangeShapes Go.WideShapes Go.ChangeAt Go.RowKit Go.aN
set_option maxRecDepth 100000
set_option linter.unusedVariables false
namespace SchemaBack
theorem tys:argTys Tryz.prog 10 Tryz.f3.params.toList=some [(true,[.int .i64,.int .u64,.int .u64,.int .u64,.int .u64,.int .u64,.int .u64,.int .u64,.int .u64,.int .u64,.int .u64,.int .u64,.int .u64,.int .u64,.int .u64,.int .u64,.int .i64,.bool,.str,.str,.str,.list true [.str,.str],.list true [.list true [.str,.str],.int .u64],.list true [.int .u8,.int .u64,.int .i8,.int .u64,.str]]),(false,[.int .i64]),(false,[.str]),(false,[.int .u16])]:=by kernel_rfl
theorem Qn {W:World} (h:Tabs W):vT fF (xA W) W:=by
 refine ⟨λb o hb=>hb,λp hp=>?_⟩;simp only [fF,dh,Di,or_false] at hp;rcases hp with rfl | rfl
 ·exact h.first.at'
 ·exact h.acc.at'
theorem anW:(Tryz.f3.params.toList.all λt=>Tryz.prog.readableRec t&&Nat.blt t Tryz.prog.types.size)=true:=by kernel_rfl
theorem laidOut:laidOutB Tryz.prog=true:=by kernel_rfl
theorem body:Tryz.f3.body=some S.agm:=by kernel_rfl
theorem contract (H:Type) (enc:TypeId×Value->H) (W:World) (base:Nat) (args:Array Value) (ds gs:List (DataW H)) (before:List MemPlace)
 (hval:∀ (j:Nat) t v,Tryz.f3.params[j]? = some t->args[j]? = some v->Value.okWide Tryz.prog W .any base t v)
 (hW:DataW.Whole enc Tryz.prog Tryz.f3.params.toList Rows.schemaBackSpec.vars false W args.toList ds gs before)
 (hsz:(DataW.weightsEach Tryz.prog (Tryz.f3.params.toList++(OpenSpec.ofChange Rows.schemaBackSpec).bare.plain.varTypes Tryz.prog) (ds++gs)).all (·<=reachBytes)=true) (hL:laidMetH Tryz.prog Rows.schemaBackRow.laid W) :
 Calls Tryz.prog 3 args W λe W'=>∃v,e=.returned v/\Rows.schemaBackSpec.post enc Tryz.prog Tryz.f3 false true false false W args v W':=
 akI names Tryz.func3 body tys laidOut (λt ht=>by have:=List.all_eq_true.1 anW t ht;rw [aI,iU] at this;exact this) (by kernel_rfl) Tryz.underlying4 rfl
  (λds h=>by
   have h:ds.length=4:=h;match ds,h with
   | [d1,d2,d3,d4],_=>rfl) (λgs h=>Go.Proofs.YtnlegpmfkopalaaGreatDoor.S.akM 1 gs _ (Go.Proofs.YtnlegpmfkopalaaGreatDoor.S.schemaBack gs h)) hval hW rfl hsz (Qn (tabs hL))
abbrev Rj:Array Value:=#[.agg #[.int .i64 0,.int .u64 0,.int .u64 0,.int .u64 0,.int .u64 0,.int .u64 0,.int .u64 0,.int .u64 0,.int .u64 0,.int .u64 0,.int .u64 0,.int .u64 0,.int .u64 0,.int .u64 0,.int .u64 0,.int .u64 0,.int .i64 0,.bool false,.string ⟨#[]⟩,.string ⟨#[]⟩,.string ⟨#[]⟩,.slice none 0 0,.slice none 0 0,.slice none 0 0],.int .i64 0,.string ⟨#[]⟩,.int .u16 0]
theorem laid_met (os:Os):laidMet Tryz.prog Rows.schemaBackRow.laid ((laidWorld os).forCall (λ_ _=>0) ⟨#[],Rj,[]⟩).memory:=
 laidMet_of_run' 8 (by kernel_rfl) (by kernel_rfl)
theorem reads (os:Os) {H:Type} (enc:TypeId×Value->H):∃places,DataW.whole enc Tryz.prog ((laidWorld os).forCall (λ_ _=>0) ⟨#[],Rj,[]⟩).memory Tryz.f3.params.toList Rows.schemaBackSpec.vars false Rj.toList 8=some ([.agg [.agg [.lit (.int .i64 0),.lit (.int .u64 0),.lit (.int .u64 0),.lit (.int .u64 0),.lit (.int .u64 0),.lit (.int .u64 0),.lit (.int .u64 0),.lit (.int .u64 0),.lit (.int .u64 0),.lit (.int .u64 0),.lit (.int .u64 0),.lit (.int .u64 0),.lit (.int .u64 0),.lit (.int .u64 0),.lit (.int .u64 0),.lit (.int .u64 0),.lit (.int .i64 0),.lit (.bool false),.lit (.string []),.lit (.string []),.lit (.string []),.nil,.nil],.nil],.lit (.int .i64 0),.lit (.string []),.lit (.int .u16 0)],[],places):=
 ⟨[],by kernel_rfl⟩
theorem lifted (os:Os) (started:os.Started) (H:Type) (enc:TypeId×Value->H) (F:Stop.Interp) :
 ReturnsInHanded {} Tryz.checked os 3 .any ((OpenSpec.ofChange Rows.schemaBackSpec).preRow enc Tryz.prog Tryz.f3 Rows.schemaBackRow.domain false Rows.schemaBackRow.laid) (((OpenSpec.ofChange Rows.schemaBackSpec).at F).post enc Tryz.prog Tryz.f3 false true false false):=by
 obtain ⟨places,hx⟩:=reads os enc
 refine returnsInHanded_of_row (C:=Tryz.checked) (s:=OpenSpec.ofChange Rows.schemaBackSpec) own started (by as_aux_lemma=>kernel_rfl) Tryz.func3
  (witness_row_at (enc:=enc) (C:=Tryz.checked) false (laidWorld os) Rj rfl (by as_aux_lemma=>kernel_rfl) (by as_aux_lemma=>kernel_rfl) (by as_aux_lemma=>kernel_rfl)
   (OpenSpec.preRow_of_cond 8 hx (by as_aux_lemma=>kernel_rfl) (λk hk=>by cases hk) (by as_aux_lemma=>kernel_rfl) (laid_met os))) ?_
 intro W base args ds gs before hval hW _ _ hsz hL _ _;exact contract H enc W base args ds gs before hval hW hsz hL
end SchemaBack
end Go.Proofs.YtnlegpmfkopalaaGreatDoor
