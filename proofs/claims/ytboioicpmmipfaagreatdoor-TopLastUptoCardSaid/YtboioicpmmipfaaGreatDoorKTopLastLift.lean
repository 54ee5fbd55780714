/- The contract of TopLast: for any arguments of plain data the call says true, and changes nothing; and a witness. Conditions: the row's own two tables, and its reach. -/
import Derived.Test.YtboioicpmmipfaaGreatDoorKJZ
import Derived.Test.YtboioicpmmipfaaGreatDoorKJe
set_option linter.all false
namespace Go.Proofs.YtboioicpmmipfaaGreatDoor
open Go.ChangeShapes Go.WideShapes Go.ChangeAt Go.RowKit Go.aP
set_option maxRecDepth 100000
namespace TopLast
def tys:argTys Tryz.prog 10 Tryz.f3.params.toList=some [(true,[.int .u64,.int .u64]),(true,[.int .u64,.int .u64]),(false,[.list true [.bool,.int .u8,.int .u8,.int .i64,.int .i64,.int .u8]]),(false,[.list true [.bool,.int .u8,.int .u8,.int .i64,.int .i64,.int .u8]]),(false,[.list true [.int .u8,.int .i64,.int .u64,.list true [.list true [.str,.str],.int .u64],.int .u64,.int .u8]])]:=by kernel_rfl
def X5{W:World}(h:Tabs W):zL dG (AO W) W:=by
 refine⟨λb o hb=>hb,λp hp=>?_⟩;simp only[dG,bH,Jj,or_false]at hp;rcases hp with rfl|rfl|rfl|rfl
 ·exact h.first.at'
 ·exact h.acc.at'
 ·exact h.agT.at'
 ·exact h.pow10.at'
def aBI:(Tryz.f3.params.toList.all λt=>Tryz.prog.readableRec t&&Nat.blt t Tryz.prog.types.size)=true:=by kernel_rfl
def laidOut:laidOutB Tryz.prog=true:=by kernel_rfl
def body:Tryz.f3.body=some J.apK:=by kernel_rfl
def aoJ{Hx:Type}(d:DataW Hx):1<=Rows.uptoBulk d:=by
 cases d with
 |lit l=>cases l<;>simp[Rows.uptoBulk]
 |_=>simp[Rows.uptoBulk]
def afY{Hx:Type}:∀l:List (DataW Hx),l.length<=Rows.uptoBulkAll l
 |[]=>vG _
 |d::r=>by have h1:=aoJ d;have h2:=afY r;rw[Rows.uptoBulkAll,iE];omega
def aoK{Hx:Type}(elems spare:List (DataW Hx)):elems.length<=Rows.uptoBulk (.slice elems spare):=by have h:=afY elems;rw[Rows.uptoBulk];omega
def afZ{Hx:Type}{d:DataW Hx}:∀{l:List (DataW Hx)},d∈l->Rows.uptoBulk d<=Rows.uptoBulkAll l
 |[],h=>by cases h
 |x::r,h=>by
  rw[Rows.uptoBulkAll];rcases bH.1 h with e|h
  ·rw[e];omega
  ·have:=afZ h;omega
def contract(Hx:Type)(enc:TypeId×Value->Hx)(W:World)(base:Nat)(args:QR)(ds gs:List (DataW Hx))(before:List MemPlace)
 (hval:∀(j:Nat) t v,Tryz.f3.params[j]? =some t->args[j]? =some v->Value.okWide Tryz.prog W .any base t v)
 (hW:DataW.Whole enc Tryz.prog Tryz.f3.params.toList Rows.topLastSpec.vars false W args.toList ds gs before)
 (hsz:(DataW.weightsEach Tryz.prog (Tryz.f3.params.toList++(Rows.OpenSpec.upto Rows.topLastSpec).bare.plain.varTypes Tryz.prog) (ds++gs)).all (·<=reachBytes)=true) (hL:laidMetH Tryz.prog Rows.topLastUptoRow.laid W) (hcond:Rows.uptoSmall Hx (ds++gs)=true):
 Calls Tryz.prog 3 args W λe W'=>∃v,e=.returned v/\Rows.topLastSpec.post enc Tryz.prog Tryz.f3 false true false false W args v W':=
 axI (B:=1048576) (sz:=Rows.uptoBulk) aoK names Tryz.func3 body tys laidOut (λt ht=>by have:=List.all_eq_true.1 aBI t ht;rw[aO,jY]at this;exact this) (by kernel_rfl) Tryz.underlying4 rfl
  (λds h=>by
   have h:ds.length=5:=h;match ds,h with
   |[d1,d2,d3,d4,d5],_=>rfl) (λgs h hl=>Go.Proofs.YtboioicpmmipfaaGreatDoor.J.axR 3 gs _ (Go.Proofs.YtboioicpmmipfaaGreatDoor.J.topLast gs h hl)) (λd hd=>kZ (afZ (Zi _ hd)) (DW hcond)) hval hW rfl hsz (X5 (tabs hL))
abbrev YX:QR:=#[.agg #[.int .u64 0,.int .u64 0],.agg #[.int .u64 0,.int .u64 0],.slice none 0 0,.slice none 0 0,.slice none 0 0]
def laid_met(os:Os):laidMet Tryz.prog Rows.topLastUptoRow.laid ((laidWorld os).forCall (λ_ _=>0) ⟨#[],YX,[]⟩).memory:=
 laidMet_of_run' 8 (by kernel_rfl) (by kernel_rfl)
def reads(os:Os){Hx:Type}(enc:TypeId×Value->Hx):∃places,DataW.whole enc Tryz.prog ((laidWorld os).forCall (λ_ _=>0) ⟨#[],YX,[]⟩).memory Tryz.f3.params.toList Rows.topLastSpec.vars false YX.toList 8=some ([.agg [.lit (.int .u64 0),.lit (.int .u64 0)],.agg [.lit (.int .u64 0),.lit (.int .u64 0)],.nil,.nil,.nil],[],places):=
 ⟨[],by kernel_rfl⟩
def lifted(os:Os)(started:os.Started)(Hx:Type)(enc:TypeId×Value->Hx)(Fx:Stop.Interp):
 ReturnsInHanded {} Tryz.checked os 3 .any ((Rows.OpenSpec.upto Rows.topLastSpec).preRow enc Tryz.prog Tryz.f3 Rows.topLastUptoRow.domain false Rows.topLastUptoRow.laid) (((Rows.OpenSpec.upto Rows.topLastSpec).at Fx).post enc Tryz.prog Tryz.f3 false true false false):=by
 obtain⟨places,hx⟩:=reads os enc
 refine returnsInHanded_of_row (C:=Tryz.checked) (s:=Rows.OpenSpec.upto Rows.topLastSpec) own started (by as_aux_lemma=>kernel_rfl) Tryz.func3
  (witness_row_at (enc:=enc) (C:=Tryz.checked) false (laidWorld os) YX rfl (by as_aux_lemma=>kernel_rfl) (by as_aux_lemma=>kernel_rfl) (by as_aux_lemma=>kernel_rfl)
   (OpenSpec.preRow_of_cond 8 hx (by as_aux_lemma=>kernel_rfl) (λk hk=>by cases hk;kernel_rfl) (by as_aux_lemma=>kernel_rfl) (laid_met os))) ?_
 intro W base args ds gs before hval hW _ hcond hsz hL hsh _;exact contract Hx enc W base args ds gs before hval hW hsz hL (hcond _ rfl)
