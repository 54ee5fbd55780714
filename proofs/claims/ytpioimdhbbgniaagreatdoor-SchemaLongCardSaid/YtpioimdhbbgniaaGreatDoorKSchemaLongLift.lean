/- The contract of SchemaLong: for any arguments of plain data the call says true, and changes nothing; and a witness. Conditions: the row's own two tables, and its reach. -/
import Derived.Test.YtpioimdhbbgniaaGreatDoorKLZ
import Derived.Test.YtpioimdhbbgniaaGreatDoorKLe
namespace Go.Proofs.YtpioimdhbbgniaaGreatDoor
open Go.ChangeShapes Go.WideShapes Go.ChangeAt Go.RowKit Go.aJ
set_option maxRecDepth 100000
set_option linter.unusedVariables false
namespace SchemaLong
theorem tys:argTys Tryz.prog 10 Tryz.f3.params.toList=some []:=by kernel_rfl
theorem Kq {W:World} (h:Tabs W):vK fU (wX W) W:=by
 refine ⟨λb o hb=>hb,λp hp=>?_⟩;simp only [fU,dn,EM,or_false] at hp;rcases hp with rfl | rfl
 ·exact h.first.at'
 ·exact h.acc.at'
theorem akT:(Tryz.f3.params.toList.all λt=>Tryz.prog.readableRec t&&Nat.blt t Tryz.prog.types.size)=true:=by kernel_rfl
theorem laidOut:laidOutB Tryz.prog=true:=by kernel_rfl
theorem body:Tryz.f3.body=some L.aeD:=by kernel_rfl
theorem contract (H:Type) (enc:TypeId×Value->H) (W:World) (base:Nat) (args:Array Value) (ds gs:List (DataW H)) (before:List MemPlace)
 (hval:∀ (j:Nat) t v,Tryz.f3.params[j]? = some t->args[j]? = some v->Value.okWide Tryz.prog W .any base t v)
 (hW:DataW.Whole enc Tryz.prog Tryz.f3.params.toList Rows.schemaLongSpec.vars false W args.toList ds gs before)
 (hsz:(DataW.weightsEach Tryz.prog (Tryz.f3.params.toList++(OpenSpec.ofChange Rows.schemaLongSpec).bare.plain.varTypes Tryz.prog) (ds++gs)).all (·<=reachBytes)=true) (hL:laidMetH Tryz.prog Rows.schemaLongRow.laid W) :
 Calls Tryz.prog 3 args W λe W'=>∃v,e=.returned v/\Rows.schemaLongSpec.post enc Tryz.prog Tryz.f3 false true false false W args v W':=
 ahZ names Tryz.func3 body tys laidOut (λt ht=>by have:=List.all_eq_true.1 akT t ht;rw [aG,iC] at this;exact this) (by kernel_rfl) Tryz.underlying4 rfl
  (λds h=>by
   have h:ds.length=0:=h;match ds,h with
   | [],_=>rfl) (λgs h=>Go.Proofs.YtpioimdhbbgniaaGreatDoor.L.ah1 1 gs _ (Go.Proofs.YtpioimdhbbgniaaGreatDoor.L.schemaLong gs h)) hval hW rfl hsz (Kq (tabs hL))
abbrev Qg:Array Value:=#[]
theorem laid_met (os:Os):laidMet Tryz.prog Rows.schemaLongRow.laid ((laidWorld os).forCall (λ_ _=>0) ⟨#[],Qg,[]⟩).memory:=
 laidMet_of_run' 8 (by kernel_rfl) (by kernel_rfl)
theorem reads (os:Os) {H:Type} (enc:TypeId×Value->H):∃places,DataW.whole enc Tryz.prog ((laidWorld os).forCall (λ_ _=>0) ⟨#[],Qg,[]⟩).memory Tryz.f3.params.toList Rows.schemaLongSpec.vars false Qg.toList 8=some ([],[],places):=
 ⟨[],by kernel_rfl⟩
theorem lifted (os:Os) (started:os.Started) (H:Type) (enc:TypeId×Value->H) (F:Stop.Interp) :
 ReturnsInHanded {} Tryz.checked os 3 .any ((OpenSpec.ofChange Rows.schemaLongSpec).preRow enc Tryz.prog Tryz.f3 Rows.schemaLongRow.domain false Rows.schemaLongRow.laid) (((OpenSpec.ofChange Rows.schemaLongSpec).at F).post enc Tryz.prog Tryz.f3 false true false false):=by
 obtain ⟨places,hx⟩:=reads os enc
 refine returnsInHanded_of_row (C:=Tryz.checked) (s:=OpenSpec.ofChange Rows.schemaLongSpec) own started (by as_aux_lemma=>kernel_rfl) Tryz.func3
  (witness_row_at (enc:=enc) (C:=Tryz.checked) false (laidWorld os) Qg rfl (by as_aux_lemma=>kernel_rfl) (by as_aux_lemma=>kernel_rfl) (by as_aux_lemma=>kernel_rfl)
   (OpenSpec.preRow_of_cond 8 hx (by as_aux_lemma=>kernel_rfl) (λk hk=>by cases hk) (by as_aux_lemma=>kernel_rfl) (laid_met os))) ?_
 intro W base args ds gs before hval hW _ _ hsz hL _ _;exact contract H enc W base args ds gs before hval hW hsz hL
end SchemaLong
end Go.Proofs.YtpioimdhbbgniaaGreatDoor
