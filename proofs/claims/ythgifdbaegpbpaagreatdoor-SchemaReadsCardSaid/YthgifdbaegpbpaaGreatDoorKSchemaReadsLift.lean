/- The contract of SchemaReads: for any arguments of plain data the call says true, and changes nothing; and a witness. Conditions: the row's own two tables, and its reach. -/
import Derived.Test.YthgifdbaegpbpaaGreatDoorKVZ
import Derived.Test.YthgifdbaegpbpaaGreatDoorKVe6
namespace Go.Proofs.YthgifdbaegpbpaaGreatDoor
open Go.ChangeShapes Go.WideShapes Go.ChangeAt Go.RowKit Go.aK
set_option maxRecDepth 100000
set_option linter.unusedVariables false
namespace SchemaReads
theorem tys:argTys Tryz.prog 10 Tryz.f5.params.toList=some [(false,[.str]),(false,[.int .i64])]:=by kernel_rfl
theorem OM {W:World} (h:Tabs W):vJ dW (wS W) W:=by
 refine ⟨λb o hb=>hb,λp hp=>?_⟩;simp only [dW,dR,Ig,or_false] at hp;rcases hp with rfl | rfl
 ·exact h.first.at'
 ·exact h.acc.at'
theorem alZ:(Tryz.f5.params.toList.all λt=>Tryz.prog.readableRec t&&Nat.blt t Tryz.prog.types.size)=true:=by kernel_rfl
theorem laidOut:laidOutB Tryz.prog=true:=by kernel_rfl
theorem body:Tryz.f5.body=some V.aeN:=by kernel_rfl
theorem contract (H:Type) (enc:TypeId×Value->H) (W:World) (base:Nat) (args:Array Value) (ds gs:List (DataW H)) (before:List MemPlace)
 (hval:∀ (j:Nat) t v,Tryz.f5.params[j]? = some t->args[j]? = some v->Value.okWide Tryz.prog W .any base t v)
 (hW:DataW.Whole enc Tryz.prog Tryz.f5.params.toList Rows.schemaReadsSpec.vars false W args.toList ds gs before)
 (hsz:(DataW.weightsEach Tryz.prog (Tryz.f5.params.toList++(OpenSpec.ofChange Rows.schemaReadsSpec).bare.plain.varTypes Tryz.prog) (ds++gs)).all (·<=reachBytes)=true) (hL:laidMetH Tryz.prog Rows.schemaReadsRow.laid W) :
 Calls Tryz.prog 5 args W λe W'=>∃v,e=.returned v/\Rows.schemaReadsSpec.post enc Tryz.prog Tryz.f5 false true false false W args v W':=
 ajd names Tryz.func5 body tys laidOut (λt ht=>by have:=List.all_eq_true.1 alZ t ht;rw [aJ,iO] at this;exact this) (by kernel_rfl) Tryz.underlying4 rfl
  (λds h=>by
   have h:ds.length=2:=h;match ds,h with
   | [d1,d2],_=>rfl) (λgs h=>Go.Proofs.YthgifdbaegpbpaaGreatDoor.V.ajf 1 gs _ (Go.Proofs.YthgifdbaegpbpaaGreatDoor.V.schemaReads gs h)) hval hW rfl hsz (OM (tabs hL))
abbrev PO:Array Value:=#[.string ⟨#[]⟩,.int .i64 0]
theorem laid_met (os:Os):laidMet Tryz.prog Rows.schemaReadsRow.laid ((laidWorld os).forCall (λ_ _=>0) ⟨#[],PO,[]⟩).memory:=
 laidMet_of_run' 8 (by kernel_rfl) (by kernel_rfl)
theorem reads (os:Os) {H:Type} (enc:TypeId×Value->H):∃places,DataW.whole enc Tryz.prog ((laidWorld os).forCall (λ_ _=>0) ⟨#[],PO,[]⟩).memory Tryz.f5.params.toList Rows.schemaReadsSpec.vars false PO.toList 8=some ([.lit (.string []),.lit (.int .i64 0)],[],places):=
 ⟨[],by kernel_rfl⟩
theorem lifted (os:Os) (started:os.Started) (H:Type) (enc:TypeId×Value->H) (F:Stop.Interp) :
 ReturnsInHanded {} Tryz.checked os 5 .any ((OpenSpec.ofChange Rows.schemaReadsSpec).preRow enc Tryz.prog Tryz.f5 Rows.schemaReadsRow.domain false Rows.schemaReadsRow.laid) (((OpenSpec.ofChange Rows.schemaReadsSpec).at F).post enc Tryz.prog Tryz.f5 false true false false):=by
 obtain ⟨places,hx⟩:=reads os enc
 refine returnsInHanded_of_row (C:=Tryz.checked) (s:=OpenSpec.ofChange Rows.schemaReadsSpec) own started (by as_aux_lemma=>kernel_rfl) Tryz.func5
  (witness_row_at (enc:=enc) (C:=Tryz.checked) false (laidWorld os) PO rfl (by as_aux_lemma=>kernel_rfl) (by as_aux_lemma=>kernel_rfl) (by as_aux_lemma=>kernel_rfl)
   (OpenSpec.preRow_of_cond 8 hx (by as_aux_lemma=>kernel_rfl) (λk hk=>by cases hk) (by as_aux_lemma=>kernel_rfl) (laid_met os))) ?_
 intro W base args ds gs before hval hW _ _ hsz hL _ _;exact contract H enc W base args ds gs before hval hW hsz hL
end SchemaReads
end Go.Proofs.YthgifdbaegpbpaaGreatDoor
