/- The law TopAgreed holds: what its call computes is told by a tree of values, proved of the program by a run of its ways, and the tree says true for all values. Conditions: the row's own two tables, and its reach. -/
import Derived.Test.YtkoclengoeonnaaGreatDoorKTopAgreedLift
import Derived.Test.YtkoclengoeonnaaGreatDoorKTopAgreedFacts
namespace Go.Proofs.YtkoclengoeonnaaGreatDoor
open Go.ChangeShapes Go.WideShapes Go.ChangeAt Go.RowKit Go.aP
set_option maxRecDepth 100000
namespace TopAgreed
theorem arN{P:Program}(h:(P.funcs.toList.all λfn=>!fn.goes)=true)(f:FuncId):P.goes f=false:=by
 have hf:∀fn∈P.funcs.toList,fn.goes=false:=λfn hm=>by simpa using List.all_eq_true.1 h fn hm
 unfold Program.goes;rw[Bool.or_eq_false_iff];constructor
 ·rw[List.any_eq_false];intro g _;cases hg:P.funcs[g]? with
  |none=>simp
  |some fn=>
   have hm:fn∈P.funcs.toList:=by obtain⟨_,rfl⟩:=qI.1 hg;simp
   simp[hf fn hm]
 ·have:P.funcs.any Func.goes=false:=by rw[<-Array.any_toList,List.any_eq_false];intro fn hm;rw[hf fn hm];simp
  rw[this,Bool.and_false]
theorem arM{P:Program}(h:(P.funcs.toList.all λfn=>!fn.goes)=true)(c:OpenClaim):false=c.goesBy P:=by have hg:P.goes=λ_=>false:=funext (arN h);unfold OpenClaim.goesBy Program.goesAt Program.goesFrom;rw[hg];cases P.funcNamed c.func<;>cases c.start<;>simp
theorem avg:(Tryz.pinned.checked.prog.funcs.toList.all λfn=>!fn.goes)=true:=by kernel_rfl
theorem said:Rows.TopAgreedUptoSaid:=
 OpenClaim.holds_of_cond 3 Tryz.f3 rfl rfl rfl rfl rfl rfl rfl ⟨rfl,rfl,rfl,rfl,rfl⟩ rfl rfl rfl rfl rfl named Tryz.func3 joined
  inst wrap
  (λos started H enc _ Fx=>by rw[OpenClaim.pre_eq_preRow];exact lifted os started H enc Fx)
theorem card:Rows.TopAgreedUptoCardSaid:=
 Claim7.holds_tied_plain_at .later [] _ _ _ _ said (λ_ h=>by cases h) (by as_aux_lemma=>kernel_rfl) (λ_ h=>by cases h) topAgreedUpto_row_tie rfl ⟨rfl,rfl⟩ (by as_aux_lemma=>kernel_rfl) rfl plain (arM avg _)
end TopAgreed
#print axioms TopAgreed.card
