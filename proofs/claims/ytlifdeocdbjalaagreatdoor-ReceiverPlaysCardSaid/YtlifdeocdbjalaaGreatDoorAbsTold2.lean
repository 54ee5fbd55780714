/- Library functions that are told: how strings compare, sums with a carry. -/
import Derived.Test.YtlifdeocdbjalaaGreatDoorAbsTold
namespace Go.aN
open Go.RowKit
noncomputable section
set_option linter.unusedSectionVars false
set_option linter.unusedVariables false
variable {P:Program}
def Ht:List GV→Option (List GV)
 | [.s a,.s b]=>some [.i .i64 (NI a b)]
 | _=>none
def DL:List GV→Option (List GV)
 | [.i .u64 x,.i .u64 y,.i .u64 c]=>if 0≤x∧0≤y∧0≤c∧c≤1 then some [.i .u64 ((x+y+c) % 18446744073709551616),.i .u64 ((x+y+c) / 18446744073709551616)] else none
 | _=>none
theorem adk {tabs:List (Nat×List AV)} {ro:Nat→Option Obj} {w:World} (hro:qm tabs ro w):yA ro ro w w:=by
 letI:aC:=Tg [] [] 0
 exact ⟨Kept.refl w,fun _ _ h=>h,fun _ h=>.inl h,hro.at'⟩
theorem afY {tabs:List (Nat×List AV)} {f:FuncId} (h:Ext P f Extern.BytealgCompare.compare) {gs out:List GV} (hg:Ht gs=some out):aG P tabs f [] [.sc] gs out:=by
 unfold Ht at hg
 split at hg
 rotate_left
 ·cases hg
 next a b=>
 cases hg
 letI:aC:=Tg [] [] 0
 refine ⟨fun ro w vs hro hvs=>?_,rfl⟩
 simp only [aO,GR] at hvs
 obtain ⟨_,_,rfl,rfl,_,_,rfl,rfl,rfl⟩:=hvs
 exact h.uT ⟨_,w,rfl,ro,adk hro,[_],rfl,by simp only [aO,GR];exact ⟨_,_,rfl,rfl,rfl⟩⟩
theorem aeW {tabs:List (Nat×List AV)} {f:FuncId} (h:Ext P f add64Entry) {gs out:List GV} (hg:DL gs=some out):aG P tabs f [] [.sc,.sc] gs out:=by
 unfold DL at hg
 split at hg
 rotate_left
 ·cases hg
 next x y c=>
 split at hg
 rotate_left
 ·cases hg
 next hc=>
 cases hg
 obtain ⟨h1,h2,h3,h4⟩:=hc
 letI:aC:=Tg [] [] 0
 refine ⟨fun ro w vs hro hvs=>?_,rfl⟩
 simp only [aO,GR] at hvs
 obtain ⟨_,_,rfl,rfl,_,_,rfl,rfl,_,_,rfl,rfl,rfl⟩:=hvs
 have hrun:=run_add64 (P:=P) x y c h1 h2 h3 h4 w
 refine h.uT ⟨_,w,hrun,ro,adk hro,[_,_],rfl, ?_⟩
 simp only [aO,GR]
 exact ⟨_,_,rfl,by congr 1,_,_,rfl,by congr 1,rfl⟩
end
end Go.aN
