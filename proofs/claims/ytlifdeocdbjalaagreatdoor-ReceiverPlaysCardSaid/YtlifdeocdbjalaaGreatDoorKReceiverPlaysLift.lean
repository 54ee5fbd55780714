/- The contract of ReceiverPlays: for any arguments of plain data the call says true, and changes nothing; and a witness. Conditions: the row's own two tables, and its reach. -/
import Derived.Test.YtlifdeocdbjalaaGreatDoorKJZ
import Derived.Test.YtlifdeocdbjalaaGreatDoorKJe
namespace Go.Proofs.YtlifdeocdbjalaaGreatDoor
open Go.ChangeShapes Go.WideShapes Go.ChangeAt Go.RowKit Go.aN
set_option maxRecDepth 100000
set_option linter.unusedVariables false
namespace ReceiverPlays
theorem tys:argTys Tryz.prog 10 Tryz.f4.params.toList=some [(false,[.int .i64]),(false,[.list true [.int .i64,.int .u64,.int .u64,.int .u64,.int .u64,.int .u64,.int .u64,.int .u64,.int .u64,.int .u64,.int .u64,.int .u64,.int .u64,.int .u64,.int .u64,.int .u64,.int .i64,.bool,.str,.str,.str,.list true [.str,.str],.list true [.list true [.str,.str],.int .u64],.list true [.int .u8,.int .u64,.int .i8,.int .u64,.str]]]),(false,[.list false [.int .u8]])]:=by kernel_rfl
theorem Jq {W:World} (h:Tabs W):qm aF (rJ W) W:=by
 refine ⟨fun b o hb=>hb,fun p hp=>?_⟩
 simp only [aF,List.mem_cons,List.mem_nil_iff,or_false] at hp
 rcases hp with rfl | rfl
 ·exact h.first.at'
 ·exact h.acc.at'
theorem alL:(Tryz.f4.params.toList.all fun t=>Tryz.prog.readableRec t&&Nat.blt t Tryz.prog.types.size)=true:=by kernel_rfl
theorem laidOut:laidOutB Tryz.prog=true:=by kernel_rfl
theorem body:Tryz.f4.body=some J.NM:=by kernel_rfl
theorem contract (H:Type) (enc:TypeId×Value→H) (W:World) (base:Nat) (args:Array Value) (ds gs:List (DataW H)) (before:List MemPlace)
 (hval:∀ (j:Nat) t v,Tryz.f4.params[j]? = some t→args[j]? = some v→Value.okWide Tryz.prog W .any base t v)
 (hW:DataW.Whole enc Tryz.prog Tryz.f4.params.toList Rows.receiverPlaysSpec.vars false W args.toList ds gs before)
 (hsz:(DataW.weightsEach Tryz.prog (Tryz.f4.params.toList++(OpenSpec.ofChange Rows.receiverPlaysSpec).bare.plain.varTypes Tryz.prog) (ds++gs)).all (·≤reachBytes)=true) (hL:laidMetH Tryz.prog Rows.receiverPlaysRow.laid W) :
 Calls Tryz.prog 4 args W fun e W'=>∃v,e=.returned v∧Rows.receiverPlaysSpec.post enc Tryz.prog Tryz.f4 false true false false W args v W':=
 ajw names Tryz.func4 body tys laidOut (fun t ht=>by have:=List.all_eq_true.1 alL t ht;rw [Bool.and_eq_true,Nat.blt_eq] at this;exact this) (by kernel_rfl) Tryz.underlying4 rfl
  (fun ds h=>by
   have h:ds.length=3:=h
   match ds,h with
   | [d1,d2,d3],_=>rfl) (fun gs h=>Go.Proofs.YtlifdeocdbjalaaGreatDoor.J.ajx 0 gs _ (Go.Proofs.YtlifdeocdbjalaaGreatDoor.J.receiverPlays gs h)) hval hW rfl hsz (Jq (tabs hL))
abbrev L6:Array Value:=#[.int .i64 0,.slice none 0 0,.slice none 0 0]
theorem laid_met (os:Os):laidMet Tryz.prog Rows.receiverPlaysRow.laid ((laidWorld os).forCall (fun _ _=>0) ⟨#[],L6,[]⟩).memory:=
 laidMet_of_run' 8 (by kernel_rfl) (by kernel_rfl)
theorem reads (os:Os) {H:Type} (enc:TypeId×Value→H):∃places,DataW.whole enc Tryz.prog ((laidWorld os).forCall (fun _ _=>0) ⟨#[],L6,[]⟩).memory Tryz.f4.params.toList Rows.receiverPlaysSpec.vars false L6.toList 8=some ([.lit (.int .i64 0),.nil,.nil],[],places):=
 ⟨[],by kernel_rfl⟩
theorem lifted (os:Os) (started:os.Started) (H:Type) (enc:TypeId×Value→H) (F:Stop.Interp) :
 ReturnsInHanded {} Tryz.checked os 4 .any ((OpenSpec.ofChange Rows.receiverPlaysSpec).preRow enc Tryz.prog Tryz.f4 Rows.receiverPlaysRow.domain false Rows.receiverPlaysRow.laid) (((OpenSpec.ofChange Rows.receiverPlaysSpec).at F).post enc Tryz.prog Tryz.f4 false true false false):=by
 obtain ⟨places,hx⟩:=reads os enc
 refine returnsInHanded_of_row (C:=Tryz.checked) (s:=OpenSpec.ofChange Rows.receiverPlaysSpec) own started (by as_aux_lemma=>kernel_rfl) Tryz.func4
  (witness_row_at (enc:=enc) (C:=Tryz.checked) false (laidWorld os) L6 rfl (by as_aux_lemma=>kernel_rfl) (by as_aux_lemma=>kernel_rfl) (by as_aux_lemma=>kernel_rfl)
   (OpenSpec.preRow_of_cond 8 hx (by as_aux_lemma=>kernel_rfl) (fun k hk=>by cases hk) (by as_aux_lemma=>kernel_rfl) (laid_met os))) ?_
 intro W base args ds gs before hval hW _ _ hsz hL _ _
 exact contract H enc W base args ds gs before hval hW hsz hL
end ReceiverPlays
end Go.Proofs.YtlifdeocdbjalaaGreatDoor
