/- strings.Repeat, told. -/
import Derived.Test.YtpioimdhbbgniaaGreatDoorAbsTold
import Derived.Lib.Repeat
namespace Go.aJ
set_option linter.unusedSimpArgs false
open Go.RowKit
noncomputable section
set_option linter.unusedSectionVars false
set_option linter.unusedVariables false
variable {P:Program}
def J8:List GV->Option (List GV)
 | [.s x,.i .i64 c]=>if 0<=c/\c<=9223372036854775807/\x.length * c.toNat<=140737488355328 then some [.s (Lib.repeatL x c.toNat)] else none
 | _=>none
theorem akY {tabs:List (Nat×List AV)} {f:FuncId} (walk:∀ (s:ByteArray) (c:Nat) (w:World),c<=9223372036854775807->s.size * c<=140737488355328->Calls P f #[.string s,.int .i64 c] w λe w'=>e=.returned (.string ⟨(Lib.repeatL s.data.toList c).toArray⟩)/\Below w.heap.size w w')
 (enters:∀args w,(callFunc f args).run P w=.ok (.enter f args) w) {gs out:List GV} (h:J8 gs=some out):oP P tabs f [] [.sc] gs out:=by
 unfold J8 at h;split at h;rotate_left
 ·cases h
 next x c=>
 split at h;rotate_left
 ·cases h
 next hc=>
 cases h;obtain ⟨c0,c1,c2⟩:=hc;obtain ⟨n,rfl⟩:∃n:Nat,c=(n:Int):=⟨c.toNat,by omega⟩
 rw [Int.toNat_natCast] at c2 ⊢;letI:aC:=Tg [] [] 0
 refine ⟨λro w vs hro hvs=>?_,rfl⟩;simp only [aK,GR] at hvs;obtain ⟨v,l,rfl,rfl,v2,l2,rfl,rfl,rfl⟩:=hvs;refine .inr ⟨enters _ w,Calls.mono' (walk ⟨⟨x⟩⟩ n w (by omega) c2) ?_⟩;rintro e w' ⟨rfl,hb⟩
 exact ⟨_,rfl,Ko ro w w',Kr hro hb,[_],rfl,by simp [aK,GR]⟩
end
end Go.aJ
