/- The contract of TopSafe: for any arguments of plain data the call says true, and changes nothing; and a witness. Conditions: the row's own two tables, and its reach. -/
import Derived.Test.YtcnekfnipdihgaaGreatDoorKVZ
import Derived.Test.YtcnekfnipdihgaaGreatDoorKVe
set_option linter.all false
namespace Go.Proofs.YtcnekfnipdihgaaGreatDoor
open Go.ChangeShapes Go.WideShapes Go.ChangeAt Go.RowKit Go.aP
set_option maxRecDepth 100000
namespace TopSafe
def tys:argTys Tryz.prog 10 Tryz.f3.params.toList=some [(true,[.int .u64,.int .u64]),(true,[.int .u64,.int .u64]),(false,[.list true [.bool,.int .u8,.int .u8,.int .i64,.int .i64,.int .u8]]),(false,[.list true [.bool,.int .u8,.int .u8,.int .i64,.int .i64,.int .u8]]),(false,[.list true [.int .u8,.int .i64,.int .u64,.list true [.list true [.str,.str],.int .u64],.int .u64,.int .u8]])]:=by kernel_rfl
def X3{W:World}(h:Tabs W):yZ dD (Ae W) W:=by
 refine⟨λb o hb=>hb,λp hp=>?_⟩;simp only[dD,bJ,IQ,or_false]at hp;rcases hp with rfl|rfl|rfl|rfl
 ·exact h.first.at'
 ·exact h.acc.at'
 ·exact h.agA.at'
 ·exact h.pow10.at'
def aAH:(Tryz.f3.params.toList.all λt=>Tryz.prog.readableRec t&&Nat.blt t Tryz.prog.types.size)=true:=by kernel_rfl
def laidOut:laidOutB Tryz.prog=true:=by kernel_rfl
def body:Tryz.f3.body=some V.ao9:=by kernel_rfl
def an9{H:Type}(d:DataW H):1<=Rows.uptoBulk d:=by
 cases d with
 |lit l=>cases l<;>simp[Rows.uptoBulk]
 |_=>simp[Rows.uptoBulk]
def afH{H:Type}:∀l:List (DataW H),l.length<=Rows.uptoBulkAll l
 |[]=>sG _
 |d::r=>by have h1:=an9 d;have h2:=afH r;rw[Rows.uptoBulkAll,ig];omega
def aoa{H:Type}(elems spare:List (DataW H)):elems.length<=Rows.uptoBulk (.slice elems spare):=by have h:=afH elems;rw[Rows.uptoBulk];omega
def afI{H:Type}{d:DataW H}:∀{l:List (DataW H)},d∈l->Rows.uptoBulk d<=Rows.uptoBulkAll l
 |[],h=>by cases h
 |x::r,h=>by
  rw[Rows.uptoBulkAll];rcases bJ.1 h with e|h
  ·rw[e];omega
  ·have:=afI h;omega
def contract(H:Type)(enc:TypeId×Value->H)(W:World)(base:Nat)(args:W2)(ds gs:List (DataW H))(before:List MemPlace)
 (hval:∀(j:Nat) t v,Tryz.f3.params[j]? =some t->args[j]? =some v->Value.okWide Tryz.prog W .any base t v)
 (hW:DataW.Whole enc Tryz.prog Tryz.f3.params.toList Rows.topSafeSpec.vars false W args.toList ds gs before)
 (hsz:(DataW.weightsEach Tryz.prog (Tryz.f3.params.toList++(Rows.OpenSpec.upto Rows.topSafeSpec).bare.plain.varTypes Tryz.prog) (ds++gs)).all (·<=reachBytes)=true) (hL:laidMetH Tryz.prog Rows.topSafeUptoRow.laid W) (hcond:Rows.uptoSmall H (ds++gs)=true):
 Calls Tryz.prog 3 args W λe W'=>∃v,e=.returned v/\Rows.topSafeSpec.post enc Tryz.prog Tryz.f3 false true false false W args v W':=
 awL (B:=1048576) (sz:=Rows.uptoBulk) aoa names Tryz.func3 body tys laidOut (λt ht=>by have:=List.all_eq_true.1 aAH t ht;rw[aO,jM]at this;exact this) (by kernel_rfl) Tryz.underlying4 rfl
  (λds h=>by
   have h:ds.length=5:=h;match ds,h with
   |[d1,d2,d3,d4,d5],_=>rfl) (λgs h hl=>Go.Proofs.YtcnekfnipdihgaaGreatDoor.V.awR 3 gs _ (Go.Proofs.YtcnekfnipdihgaaGreatDoor.V.topSafe gs h hl)) (λd hd=>kR (afI (Pz _ hd)) (Du hcond)) hval hW rfl hsz (X3 (tabs hL))
abbrev YR:W2:=#[.agg #[.int .u64 0,.int .u64 0],.agg #[.int .u64 0,.int .u64 0],.slice none 0 0,.slice none 0 0,.slice none 0 0]
def laid_met(os:Os):laidMet Tryz.prog Rows.topSafeUptoRow.laid ((laidWorld os).forCall (λ_ _=>0) ⟨#[],YR,[]⟩).memory:=
 laidMet_of_run' 8 (by kernel_rfl) (by kernel_rfl)
def reads(os:Os){H:Type}(enc:TypeId×Value->H):∃places,DataW.whole enc Tryz.prog ((laidWorld os).forCall (λ_ _=>0) ⟨#[],YR,[]⟩).memory Tryz.f3.params.toList Rows.topSafeSpec.vars false YR.toList 8=some ([.agg [.lit (.int .u64 0),.lit (.int .u64 0)],.agg [.lit (.int .u64 0),.lit (.int .u64 0)],.nil,.nil,.nil],[],places):=
 ⟨[],by kernel_rfl⟩
def lifted(os:Os)(started:os.Started)(H:Type)(enc:TypeId×Value->H)(Fx:Stop.Interp):
 ReturnsInHanded {} Tryz.checked os 3 .any ((Rows.OpenSpec.upto Rows.topSafeSpec).preRow enc Tryz.prog Tryz.f3 Rows.topSafeUptoRow.domain false Rows.topSafeUptoRow.laid) (((Rows.OpenSpec.upto Rows.topSafeSpec).at Fx).post enc Tryz.prog Tryz.f3 false true false false):=by
 obtain⟨places,hx⟩:=reads os enc
 refine returnsInHanded_of_row (C:=Tryz.checked) (s:=Rows.OpenSpec.upto Rows.topSafeSpec) own started (by as_aux_lemma=>kernel_rfl) Tryz.func3
  (witness_row_at (enc:=enc) (C:=Tryz.checked) false (laidWorld os) YR rfl (by as_aux_lemma=>kernel_rfl) (by as_aux_lemma=>kernel_rfl) (by as_aux_lemma=>kernel_rfl)
   (OpenSpec.preRow_of_cond 8 hx (by as_aux_lemma=>kernel_rfl) (λk hk=>by cases hk;kernel_rfl) (by as_aux_lemma=>kernel_rfl) (laid_met os))) ?_
 intro W base args ds gs before hval hW _ hcond hsz hL hsh _;exact contract H enc W base args ds gs before hval hW hsz hL (hcond _ rfl)
