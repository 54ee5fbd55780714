/- What the row of TopSafe says of the program's form. -/
import GoSem.PinnedTables
import Derived.Stop.LaidErr
import Derived.Test.YtcnekfnipdihgaaGreatDoorCards
import Derived.Test.YtcnekfnipdihgaaGreatDoorTie
import Derived.ProofKit
import Derived.OpenShut
import Derived.Deep.DeepHandedRow
namespace Go.Proofs.YtcnekfnipdihgaaGreatDoor
open Go.ChangeShapes Go.WideShapes Go.ChangeAt Go.RowKit
set_option maxRecDepth 100000
namespace TopSafe
theorem afk{a b:Bool}(ha:a=true)(hb:b=true):(a&&b)=true:=by rw[ha,hb];rfl
theorem named:Tryz.prog.funcNamed "postmark/postmarktop.TopSafe" =some 3:=by kernel_rfl
set_option maxHeartbeats 4000000 in
theorem joined:joinedFacts Tryz.prog 3 Tryz.f3 (Rows.OpenSpec.upto Rows.topSafeSpec).bare Rows.topSafeUptoRow=true:=by
 unfold joinedFacts;repeat' (with_reducible apply afk)
 all_goals (as_aux_lemma=>kernel_rfl)
theorem inst:Tryz.f3.isInstance Tryz.prog Rows.topSafeUptoRow.origin Rows.topSafeUptoRow.targs:=of_decide_eq_true (by kernel_rfl)
theorem wrap:Tryz.f3.isWrapper Tryz.prog Rows.topSafeUptoRow.wrapper Rows.topSafeUptoRow.mainSum:=by unfold Func.isWrapper;first|(rw[if_pos (by decide +kernel)];kernel_rfl)|(rw[if_neg (by decide +kernel)];exact⟨rfl,rfl⟩)
theorem looks:true=Tryz.pinned.checked.prog.looks []:=by kernel_rfl
theorem plain(f:FuncId)(fn:Func)(hf:Tryz.pinned.checked.prog.funcNamed "postmark/postmarktop.TopSafe" =some f)(hfn:Tryz.pinned.checked.prog.funcs[f]? =some fn):
 true=Tryz.pinned.checked.prog.looks []/\∀(j:Nat) t,fn.params[j]? =some t->Tryz.pinned.checked.prog.wantsStandIn t=false:=by
 obtain rfl:f=3:=Option.some.inj (named.symm.trans hf) |>.symm;obtain rfl:fn=Tryz.f3:=(Option.some.inj (Tryz.func3.symm.trans hfn)).symm;refine⟨looks,λj t ht=>?_⟩;have hall:(Tryz.f3.params.toList.all λt=>!(Tryz.pinned.checked.prog.wantsStandIn t))=true:=by kernel_rfl
 have:=List.all_eq_true.1 hall t (List.mem_of_getElem? (i:=j) (by simpa using ht));simpa using this
