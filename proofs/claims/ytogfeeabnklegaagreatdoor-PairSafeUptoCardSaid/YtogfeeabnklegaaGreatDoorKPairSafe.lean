/- The law PairSafe holds: what its call computes is told by a tree of values, proved of the program by a run of its ways, and the tree says true for all values. Conditions: the row's own two tables, and its reach. -/
import Derived.Test.YtogfeeabnklegaaGreatDoorKBZ
import Derived.Test.YtogfeeabnklegaaGreatDoorKBe
import Derived.Test.YtogfeeabnklegaaGreatDoorKPairSafeFacts
set_option linter.all false
namespace Go.Proofs.YtogfeeabnklegaaGreatDoor
open Go.ChangeShapes Go.WideShapes Go.ChangeAt Go.RowKit Go.aP
set_option maxRecDepth 100000
namespace PairSafe
def tys:argTys Tryz.prog 10 Tryz.f3.params.toList=some [(true,[.int .u64,.int .u64]),(true,[.int .u64,.int .u64]),(false,[.list true [.bool,.int .u8,.int .u8,.int .i64,.int .i64,.int .u8]]),(false,[.list true [.bool,.int .u8,.int .u8,.int .i64,.int .i64,.int .u8]]),(false,[.list true [.int .u8,.int .i64,.int .u64,.list true [.list true [.str,.str],.int .u64],.int .u64,.int .u8]])]:=by kernel_rfl
def X4{W:World}(h:Tabs W):zK dH (AO W) W:=by
 refine⟨λb o hb=>hb,λp hp=>?_⟩;simp only[dH,bI,Jh,or_false]at hp;rcases hp with rfl|rfl
 ·exact h.first.at'
 ·exact h.acc.at'
def aAX:(Tryz.f3.params.toList.all λt=>Tryz.prog.readableRec t&&Nat.blt t Tryz.prog.types.size)=true:=by kernel_rfl
def laidOut:laidOutB Tryz.prog=true:=by kernel_rfl
def body:Tryz.f3.body=some B.apg:=by kernel_rfl
def aom{H:Type}(d:DataW H):1<=Rows.uptoBulk d:=by
 cases d with
 |lit l=>cases l<;>simp[Rows.uptoBulk]
 |_=>simp[Rows.uptoBulk]
def afL{H:Type}:∀l:List (DataW H),l.length<=Rows.uptoBulkAll l
 |[]=>vG _
 |d::r=>by have h1:=aom d;have h2:=afL r;rw[Rows.uptoBulkAll,iD];omega
def aon{H:Type}(elems spare:List (DataW H)):elems.length<=Rows.uptoBulk (.slice elems spare):=by have h:=afL elems;rw[Rows.uptoBulk];omega
def afM{H:Type}{d:DataW H}:∀{l:List (DataW H)},d∈l->Rows.uptoBulk d<=Rows.uptoBulkAll l
 |[],h=>by cases h
 |x::r,h=>by
  rw[Rows.uptoBulkAll];rcases bI.1 h with e|h
  ·rw[e];omega
  ·have:=afM h;omega
def contract(H:Type)(enc:TypeId×Value->H)(W:World)(base:Nat)(args:QR)(ds gs:List (DataW H))(before:List MemPlace)
 (hval:∀(j:Nat) t v,Tryz.f3.params[j]? =some t->args[j]? =some v->Value.okWide Tryz.prog W .any base t v)
 (hW:DataW.Whole enc Tryz.prog Tryz.f3.params.toList Rows.pairSafeSpec.vars false W args.toList ds gs before)
 (hsz:(DataW.weightsEach Tryz.prog (Tryz.f3.params.toList++(Rows.OpenSpec.upto Rows.pairSafeSpec).bare.plain.varTypes Tryz.prog) (ds++gs)).all (·<=reachBytes)=true) (hL:laidMetH Tryz.prog Rows.pairSafeUptoRow.laid W) (hcond:Rows.uptoSmall H (ds++gs)=true):
 Calls Tryz.prog 3 args W λe W'=>∃v,e=.returned v/\Rows.pairSafeSpec.post enc Tryz.prog Tryz.f3 false true false false W args v W':=
 aw2 (B:=1048576) (sz:=Rows.uptoBulk) aon names Tryz.func3 body tys laidOut (λt ht=>by have:=List.all_eq_true.1 aAX t ht;rw[aO,jX]at this;exact this) (by kernel_rfl) Tryz.underlying4 rfl
  (λds h=>by
   have h:ds.length=5:=h;match ds,h with
   |[d1,d2,d3,d4,d5],_=>rfl) (λgs h hl=>Go.Proofs.YtogfeeabnklegaaGreatDoor.B.aw9 2 gs _ (Go.Proofs.YtogfeeabnklegaaGreatDoor.B.pairSafe gs h hl)) (λd hd=>kW (afM (Zm _ hd)) (DX hcond)) hval hW rfl hsz (X4 (tabs hL))
abbrev Y3:QR:=#[.agg #[.int .u64 0,.int .u64 0],.agg #[.int .u64 0,.int .u64 0],.slice none 0 0,.slice none 0 0,.slice none 0 0]
def laid_met(os:Os):laidMet Tryz.prog Rows.pairSafeUptoRow.laid ((laidWorld os).forCall (λ_ _=>0) ⟨#[],Y3,[]⟩).memory:=
 laidMet_of_run' 8 (by kernel_rfl) (by kernel_rfl)
def reads(os:Os){H:Type}(enc:TypeId×Value->H):∃places,DataW.whole enc Tryz.prog ((laidWorld os).forCall (λ_ _=>0) ⟨#[],Y3,[]⟩).memory Tryz.f3.params.toList Rows.pairSafeSpec.vars false Y3.toList 8=some ([.agg [.lit (.int .u64 0),.lit (.int .u64 0)],.agg [.lit (.int .u64 0),.lit (.int .u64 0)],.nil,.nil,.nil],[],places):=
 ⟨[],by kernel_rfl⟩
def lifted(os:Os)(started:os.Started)(H:Type)(enc:TypeId×Value->H)(Fx:Stop.Interp):
 ReturnsInHanded {} Tryz.checked os 3 .any ((Rows.OpenSpec.upto Rows.pairSafeSpec).preRow enc Tryz.prog Tryz.f3 Rows.pairSafeUptoRow.domain false Rows.pairSafeUptoRow.laid) (((Rows.OpenSpec.upto Rows.pairSafeSpec).at Fx).post enc Tryz.prog Tryz.f3 false true false false):=by
 obtain⟨places,hx⟩:=reads os enc
 refine returnsInHanded_of_row (C:=Tryz.checked) (s:=Rows.OpenSpec.upto Rows.pairSafeSpec) own started (by as_aux_lemma=>kernel_rfl) Tryz.func3
  (witness_row_at (enc:=enc) (C:=Tryz.checked) false (laidWorld os) Y3 rfl (by as_aux_lemma=>kernel_rfl) (by as_aux_lemma=>kernel_rfl) (by as_aux_lemma=>kernel_rfl)
   (OpenSpec.preRow_of_cond 8 hx (by as_aux_lemma=>kernel_rfl) (λk hk=>by cases hk;kernel_rfl) (by as_aux_lemma=>kernel_rfl) (laid_met os))) ?_
 intro W base args ds gs before hval hW _ hcond hsz hL hsh _;exact contract H enc W base args ds gs before hval hW hsz hL (hcond _ rfl)
theorem avg{P:Program}(h:(P.funcs.toList.all λfn=>!fn.goes)=true)(f:FuncId):P.goes f=false:=by
 have hf:∀fn∈P.funcs.toList,fn.goes=false:=λfn hm=>by simpa using List.all_eq_true.1 h fn hm
 unfold Program.goes;rw[Bool.or_eq_false_iff];constructor
 ·rw[aeI];intro g _;cases hg:P.funcs[g]? with
  |none=>simp
  |some fn=>
   have hm:fn∈P.funcs.toList:=by obtain⟨_,rfl⟩:=tH.1 hg;simp
   simp[hf fn hm]
 ·have:P.funcs.any Func.goes=false:=by rw[<-Array.any_toList,aeI];intro fn hm;rw[hf fn hm];simp
  rw[this,Bool.and_false]
theorem avf{P:Program}(h:(P.funcs.toList.all λfn=>!fn.goes)=true)(c:OpenClaim):false=c.goesBy P:=by have hg:P.goes=λ_=>false:=funext (avg h);unfold OpenClaim.goesBy Program.goesAt Program.goesFrom;rw[hg];cases P.funcNamed c.func<;>cases c.start<;>simp
theorem ayx:(Tryz.pinned.checked.prog.funcs.toList.all λfn=>!fn.goes)=true:=by kernel_rfl
theorem said:Rows.PairSafeUptoSaid:=
 OpenClaim.holds_of_cond 3 Tryz.f3 rfl rfl rfl rfl rfl rfl rfl ⟨rfl,rfl,rfl,rfl,rfl⟩ rfl rfl rfl rfl rfl named Tryz.func3 joined
  inst wrap
  (λos started H enc _ Fx=>by rw[OpenClaim.pre_eq_preRow];exact lifted os started H enc Fx)
theorem card:Rows.PairSafeUptoCardSaid:=
 Claim7.holds_tied_plain_at .later [] _ _ _ _ said (λ_ h=>by cases h) (by as_aux_lemma=>kernel_rfl) (λ_ h=>by cases h) pairSafeUpto_row_tie rfl ⟨rfl,rfl⟩ (by as_aux_lemma=>kernel_rfl) rfl plain (avf ayx _)
end PairSafe
#print axioms PairSafe.card
