/- The contract of AuditRight: for any arguments of plain data the call says true, and changes nothing; and a witness. Conditions: the row's own two tables, and its reach. -/
import Derived.Test.YthchhlenbkefnaaGreatDoorKUZ
import Derived.Test.YthchhlenbkefnaaGreatDoorKUe
set_option linter.all false
namespace Go.Proofs.YthchhlenbkefnaaGreatDoor
open Go.ChangeShapes Go.WideShapes Go.ChangeAt Go.RowKit Go.aN
set_option maxRecDepth 100000
namespace AuditRight
def tys:argTys Tryz.prog 10 Tryz.f3.params.toList=some [(true,[.int .u64,.int .u64]),(true,[.int .u64,.int .u64]),(false,[.list true [.bool,.int .u8,.int .u8,.int .i64,.int .i64,.int .u8]]),(false,[.list true [.bool,.int .u8,.int .u8,.int .i64,.int .i64,.int .u8]]),(false,[.list true [.int .u8,.int .i64,.int .u64,.list true [.list true [.str,.str],.int .u64],.int .u64,.int .u8]])]:=by kernel_rfl
def Xn{W:World}(h:Tabs W):yP bZ (zQ W) W:=by
 refine⟨λb o hb=>hb,λp hp=>?_⟩;simp only[bZ,bH,Ir,or_false]at hp;rcases hp with rfl|rfl|rfl|rfl
 ·exact h.first.at'
 ·exact h.acc.at'
 ·exact h.af4.at'
 ·exact h.pow10.at'
def aAJ:(Tryz.f3.params.toList.all λt=>Tryz.prog.readableRec t&&Nat.blt t Tryz.prog.types.size)=true:=by kernel_rfl
def laidOut:laidOutB Tryz.prog=true:=by kernel_rfl
def body:Tryz.f3.body=some U.aoH:=by kernel_rfl
def anG{H:Type}(d:DataW H):1<=Rows.uptoBulk d:=by
 cases d with
 |lit l=>cases l<;>simp[Rows.uptoBulk]
 |_=>simp[Rows.uptoBulk]
def aff{H:Type}:∀l:List (DataW H),l.length<=Rows.uptoBulkAll l
 |[]=>tJ _
 |d::r=>by have h1:=anG d;have h2:=aff r;rw[Rows.uptoBulkAll,gV];omega
def anH{H:Type}(elems spare:List (DataW H)):elems.length<=Rows.uptoBulk (.slice elems spare):=by have h:=aff elems;rw[Rows.uptoBulk];omega
def afg{H:Type}{d:DataW H}:∀{l:List (DataW H)},d∈l->Rows.uptoBulk d<=Rows.uptoBulkAll l
 |[],h=>by cases h
 |x::r,h=>by
  rw[Rows.uptoBulkAll];rcases bH.1 h with e|h
  ·rw[e];omega
  ·have:=afg h;omega
def contract(H:Type)(enc:TypeId×Value->H)(W:World)(base:Nat)(args:QQ)(ds gs:List (DataW H))(before:List MemPlace)
 (hval:∀(j:Nat) t v,Tryz.f3.params[j]? =some t->args[j]? =some v->Value.okWide Tryz.prog W .any base t v)
 (hW:DataW.Whole enc Tryz.prog Tryz.f3.params.toList Rows.auditRightSpec.vars false W args.toList ds gs before)
 (hsz:(DataW.weightsEach Tryz.prog (Tryz.f3.params.toList++(Rows.OpenSpec.upto Rows.auditRightSpec).bare.plain.varTypes Tryz.prog) (ds++gs)).all (·<=reachBytes)=true) (hL:laidMetH Tryz.prog Rows.auditRightUptoRow.laid W) (hcond:Rows.uptoSmall H (ds++gs)=true):
 Calls Tryz.prog 3 args W λe W'=>∃v,e=.returned v/\Rows.auditRightSpec.post enc Tryz.prog Tryz.f3 false true false false W args v W':=
 awL (B:=1048576) (sz:=Rows.uptoBulk) anH names Tryz.func3 body tys laidOut (λt ht=>by have:=List.all_eq_true.1 aAJ t ht;rw[aK,jB]at this;exact this) (by kernel_rfl) Tryz.underlying4 rfl
  (λds h=>by
   have h:ds.length=5:=h;match ds,h with
   |[d1,d2,d3,d4,d5],_=>rfl) (λgs h hl=>Go.Proofs.YthchhlenbkefnaaGreatDoor.U.awT 3 gs _ (Go.Proofs.YthchhlenbkefnaaGreatDoor.U.auditRight gs h hl)) (λd hd=>kF (afg (YA _ hd)) (Bq hcond)) hval hW rfl hsz (Xn (tabs hL))
abbrev Yf:QQ:=#[.agg #[.int .u64 0,.int .u64 0],.agg #[.int .u64 0,.int .u64 0],.slice none 0 0,.slice none 0 0,.slice none 0 0]
def laid_met(os:Os):laidMet Tryz.prog Rows.auditRightUptoRow.laid ((laidWorld os).forCall (λ_ _=>0) ⟨#[],Yf,[]⟩).memory:=
 laidMet_of_run' 8 (by kernel_rfl) (by kernel_rfl)
def reads(os:Os){H:Type}(enc:TypeId×Value->H):∃places,DataW.whole enc Tryz.prog ((laidWorld os).forCall (λ_ _=>0) ⟨#[],Yf,[]⟩).memory Tryz.f3.params.toList Rows.auditRightSpec.vars false Yf.toList 8=some ([.agg [.lit (.int .u64 0),.lit (.int .u64 0)],.agg [.lit (.int .u64 0),.lit (.int .u64 0)],.nil,.nil,.nil],[],places):=
 ⟨[],by kernel_rfl⟩
def lifted(os:Os)(started:os.Started)(H:Type)(enc:TypeId×Value->H)(Fx:Stop.Interp):
 ReturnsInHanded {} Tryz.checked os 3 .any ((Rows.OpenSpec.upto Rows.auditRightSpec).preRow enc Tryz.prog Tryz.f3 Rows.auditRightUptoRow.domain false Rows.auditRightUptoRow.laid) (((Rows.OpenSpec.upto Rows.auditRightSpec).at Fx).post enc Tryz.prog Tryz.f3 false true false false):=by
 obtain⟨places,hx⟩:=reads os enc
 refine returnsInHanded_of_row (C:=Tryz.checked) (s:=Rows.OpenSpec.upto Rows.auditRightSpec) own started (by as_aux_lemma=>kernel_rfl) Tryz.func3
  (witness_row_at (enc:=enc) (C:=Tryz.checked) false (laidWorld os) Yf rfl (by as_aux_lemma=>kernel_rfl) (by as_aux_lemma=>kernel_rfl) (by as_aux_lemma=>kernel_rfl)
   (OpenSpec.preRow_of_cond 8 hx (by as_aux_lemma=>kernel_rfl) (λk hk=>by cases hk;kernel_rfl) (by as_aux_lemma=>kernel_rfl) (laid_met os))) ?_
 intro W base args ds gs before hval hW _ hcond hsz hL hsh _;exact contract H enc W base args ds gs before hval hW hsz hL (hcond _ rfl)
