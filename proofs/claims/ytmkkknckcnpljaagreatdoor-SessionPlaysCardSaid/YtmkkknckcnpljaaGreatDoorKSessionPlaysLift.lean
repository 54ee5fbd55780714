/- The contract of SessionPlays: for any arguments of plain data the call says true, and changes nothing; and a witness. Conditions: the row's own two tables, and its reach. -/
import Derived.Test.YtmkkknckcnpljaaGreatDoorKRZ
import Derived.Test.YtmkkknckcnpljaaGreatDoorKRe
set_option linter.all false
namespace Go.Proofs.YtmkkknckcnpljaaGreatDoor
open Go.ChangeShapes Go.WideShapes Go.ChangeAt Go.RowKit Go.aO
set_option maxRecDepth 100000
namespace SessionPlays
def tys:argTys Tryz.prog 10 Tryz.f3.params.toList=some [(true,[.int .u64,.int .u64]),(true,[.int .u64,.int .u64]),(false,[.str]),(false,[.list true [.int .u8,.int .u8,.int .u8,.int .u64,.list true [.list true [.str,.str],.int .u64],.int .u16,.int .u8,.str]])]:=by kernel_rfl
def Vw{W:World}(h:Tabs W):xK bG (zM W) W:=by
 refine⟨λb o hb=>hb,λp hp=>?_⟩;simp only[bG,bD,Hf,or_false]at hp;rcases hp with rfl|rfl
 ·exact h.first.at'
 ·exact h.acc.at'
def ayg:(Tryz.f3.params.toList.all λt=>Tryz.prog.readableRec t&&Nat.blt t Tryz.prog.types.size)=true:=by kernel_rfl
def laidOut:laidOutB Tryz.prog=true:=by kernel_rfl
def body:Tryz.f3.body=some R.al9:=by kernel_rfl
def contract(Hx:Type)(enc:TypeId×Value->Hx)(W:World)(base:Nat)(args:QQ)(ds gs:List (DataW Hx))(before:List MemPlace)
 (hval:∀(j:Nat) t v,Tryz.f3.params[j]? =some t->args[j]? =some v->Value.okWide Tryz.prog W .any base t v)
 (hW:DataW.Whole enc Tryz.prog Tryz.f3.params.toList Rows.sessionPlaysSpec.vars false W args.toList ds gs before)
 (hsz:(DataW.weightsEach Tryz.prog (Tryz.f3.params.toList++(OpenSpec.ofChange Rows.sessionPlaysSpec).bare.plain.varTypes Tryz.prog) (ds++gs)).all (·<=reachBytes)=true) (hL:laidMetH Tryz.prog Rows.sessionPlaysRow.laid W):
 Calls Tryz.prog 3 args W λe W'=>∃v,e=.returned v/\Rows.sessionPlaysSpec.post enc Tryz.prog Tryz.f3 false true false false W args v W':=
 auH names Tryz.func3 body tys laidOut (λt ht=>by have:=List.all_eq_true.1 ayg t ht;rw[aK,jm]at this;exact this) (by kernel_rfl) Tryz.underlying4 rfl
  (λds h=>by
   have h:ds.length=4:=h;match ds,h with
   |[d1,d2,d3,d4],_=>rfl) (λgs h=>Go.Proofs.YtmkkknckcnpljaaGreatDoor.R.auK 1 gs _ (Go.Proofs.YtmkkknckcnpljaaGreatDoor.R.sessionPlays gs h)) hval hW rfl hsz (Vw (tabs hL))
abbrev Wv:QQ:=#[.agg #[.int .u64 0,.int .u64 0],.agg #[.int .u64 0,.int .u64 0],.string ⟨#[]⟩,.slice none 0 0]
def laid_met(os:Os):laidMet Tryz.prog Rows.sessionPlaysRow.laid ((laidWorld os).forCall (λ_ _=>0) ⟨#[],Wv,[]⟩).memory:=
 laidMet_of_run' 8 (by kernel_rfl) (by kernel_rfl)
def reads(os:Os){Hx:Type}(enc:TypeId×Value->Hx):∃places,DataW.whole enc Tryz.prog ((laidWorld os).forCall (λ_ _=>0) ⟨#[],Wv,[]⟩).memory Tryz.f3.params.toList Rows.sessionPlaysSpec.vars false Wv.toList 8=some ([.agg [.lit (.int .u64 0),.lit (.int .u64 0)],.agg [.lit (.int .u64 0),.lit (.int .u64 0)],.lit (.string []),.nil],[],places):=
 ⟨[],by kernel_rfl⟩
def lifted(os:Os)(started:os.Started)(Hx:Type)(enc:TypeId×Value->Hx)(F:Stop.Interp):
 ReturnsInHanded {} Tryz.checked os 3 .any ((OpenSpec.ofChange Rows.sessionPlaysSpec).preRow enc Tryz.prog Tryz.f3 Rows.sessionPlaysRow.domain false Rows.sessionPlaysRow.laid) (((OpenSpec.ofChange Rows.sessionPlaysSpec).at F).post enc Tryz.prog Tryz.f3 false true false false):=by
 obtain⟨places,hx⟩:=reads os enc
 refine returnsInHanded_of_row (C:=Tryz.checked) (s:=OpenSpec.ofChange Rows.sessionPlaysSpec) own started (by as_aux_lemma=>kernel_rfl) Tryz.func3
  (witness_row_at (enc:=enc) (C:=Tryz.checked) false (laidWorld os) Wv rfl (by as_aux_lemma=>kernel_rfl) (by as_aux_lemma=>kernel_rfl) (by as_aux_lemma=>kernel_rfl)
   (OpenSpec.preRow_of_cond 8 hx (by as_aux_lemma=>kernel_rfl) (λk hk=>by cases hk) (by as_aux_lemma=>kernel_rfl) (laid_met os))) ?_
 intro W base args ds gs before hval hW _ _ hsz hL hsh _;exact contract Hx enc W base args ds gs before hval hW hsz hL
