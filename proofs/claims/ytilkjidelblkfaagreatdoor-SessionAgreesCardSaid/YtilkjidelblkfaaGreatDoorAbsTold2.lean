/- Library functions that are told: how strings compare, sums with a carry. -/
import Derived.Test.YtilkjidelblkfaaGreatDoorAbsTold
namespace Go.aJ
set_option linter.unusedSimpArgs false
open Go.RowKit
noncomputable section
set_option linter.unusedSectionVars false
set_option linter.unusedVariables false
variable {P:Program}
def ahY:List GV->Option (List GV)
 | [.s a,.s b]=>some [.i .i64 (UE a b)]
 | _=>none
def ZY:List GV->Option (List GV)
 | [.i .u64 x,.i .u64 y,.i .u64 c]=>if 0<=x/\0<=y/\0<=c/\c<=1 then some [.i .u64 ((x+y+c) % 18446744073709551616),.i .u64 ((x+y+c) / 18446744073709551616)] else none
 | _=>none
theorem roStep_refl {tabs:List (Nat×List AV)} {ro:Nat->Option Obj} {w:World} (hro:wR tabs ro w):He ro ro w w:=by
 letI:aG:=Tg [] [] 0
 exact ⟨Kept.refl w,λ_ _ h=>h,λ_ h=>.inl h,hro.at'⟩
theorem cmp_FnC {tabs:List (Nat×List AV)} {f:FuncId} (h:Ext P f Extern.BytealgCompare.compare) {gs out:List GV} (hg:ahY gs=some out):sD P tabs f [] [.sc] gs out:=by
 unfold ahY at hg;split at hg;rotate_left
 ·cases hg
 next a b=>
 cases hg;letI:aG:=Tg [] [] 0
 refine ⟨λro w vs hro hvs=>?_,rfl⟩;simp only [aK,GR] at hvs;obtain ⟨_,_,rfl,rfl,_,_,rfl,rfl,rfl⟩:=hvs;exact h.Es ⟨_,w,rfl,ro,roStep_refl hro,[_],rfl,by simp only [aK,GR];exact ⟨_,_,rfl,rfl,rfl⟩⟩
theorem add64_FnC {tabs:List (Nat×List AV)} {f:FuncId} (h:Ext P f add64Entry) {gs out:List GV} (hg:ZY gs=some out):sD P tabs f [] [.sc,.sc] gs out:=by
 unfold ZY at hg;split at hg;rotate_left
 ·cases hg
 next x y c=>
 split at hg;rotate_left
 ·cases hg
 next hc=>
 cases hg;obtain ⟨h1,h2,h3,h4⟩:=hc;letI:aG:=Tg [] [] 0
 refine ⟨λro w vs hro hvs=>?_,rfl⟩;simp only [aK,GR] at hvs;obtain ⟨_,_,rfl,rfl,_,_,rfl,rfl,_,_,rfl,rfl,rfl⟩:=hvs;have hrun:=run_add64 (P:=P) x y c h1 h2 h3 h4 w;refine h.Es ⟨_,w,hrun,ro,roStep_refl hro,[_,_],rfl, ?_⟩;simp only [aK,GR];exact ⟨_,_,rfl,by congr 1,_,_,rfl,by congr 1,rfl⟩
end
end Go.aJ
