/- The law TopSafe holds: what its call computes is told by a tree of values, proved of the program by a run of its ways, and the tree says true for all values. Conditions: the row's own two tables, and its reach. -/
import Derived.Test.YtcnekfnipdihgaaGreatDoorKTopSafeLift
import Derived.Test.YtcnekfnipdihgaaGreatDoorKTopSafeFacts
namespace Go.Proofs.YtcnekfnipdihgaaGreatDoor
open Go.ChangeShapes Go.WideShapes Go.ChangeAt Go.RowKit Go.aP
set_option maxRecDepth 100000
namespace TopSafe
theorem au0{P:Program}(h:(P.funcs.toList.all λfn=>!fn.goes)=true)(f:FuncId):P.goes f=false:=by
 have hf:∀fn∈P.funcs.toList,fn.goes=false:=λfn hm=>by simpa using List.all_eq_true.1 h fn hm
 unfold Program.goes;rw[Bool.or_eq_false_iff];constructor
 ·rw[aeB];intro g _;cases hg:P.funcs[g]? with
  |none=>simp
  |some fn=>
   have hm:fn∈P.funcs.toList:=by obtain⟨_,rfl⟩:=rX.1 hg;simp
   simp[hf fn hm]
 ·have:P.funcs.any Func.goes=false:=by rw[<-Array.any_toList,aeB];intro fn hm;rw[hf fn hm];simp
  rw[this,Bool.and_false]
theorem auZ{P:Program}(h:(P.funcs.toList.all λfn=>!fn.goes)=true)(c:OpenClaim):false=c.goesBy P:=by have hg:P.goes=λ_=>false:=funext (au0 h);unfold OpenClaim.goesBy Program.goesAt Program.goesFrom;rw[hg];cases P.funcNamed c.func<;>cases c.start<;>simp
theorem ayc:(Tryz.pinned.checked.prog.funcs.toList.all λfn=>!fn.goes)=true:=by kernel_rfl
theorem said:Rows.TopSafeUptoSaid:=
 OpenClaim.holds_of_cond 3 Tryz.f3 rfl rfl rfl rfl rfl rfl rfl ⟨rfl,rfl,rfl,rfl,rfl⟩ rfl rfl rfl rfl rfl named Tryz.func3 joined
  inst wrap
  (λos started H enc _ Fx=>by rw[OpenClaim.pre_eq_preRow];exact lifted os started H enc Fx)
theorem card:Rows.TopSafeUptoCardSaid:=
 Claim7.holds_tied_plain_at .later [] _ _ _ _ said (λ_ h=>by cases h) (by as_aux_lemma=>kernel_rfl) (λ_ h=>by cases h) topSafeUpto_row_tie rfl ⟨rfl,rfl⟩ (by as_aux_lemma=>kernel_rfl) rfl plain (auZ ayc _)
end TopSafe
#print axioms TopSafe.card
