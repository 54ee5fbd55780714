/- Library functions that are told: slices.Clone, utf8.ValidString. -/
import Derived.Test.YthgifdbaegpbpaaGreatDoorAbsJ
import Derived.Laws.AppendOwn
import Derived.Lib.ValidU
namespace Go.aP
open Go.RowKit
noncomputable section
set_option linter.unusedSectionVars false
set_option linter.unusedVariables false
variable {P:Program}
def asI (bytes size:Nat):List GV→Option (List GV)
 | [.l xs]=>if xs.length * bytes≤140737488355328∧xs.all (GV.gJ size)=true then some [.l xs] else none
 | _=>none
def DW:List GV→Option (List GV)
 | [.s x]=>if x.length≤9223372036854775807 then some [.b (Lib.validD x)] else none
 | _=>none
theorem Kept.of_below {w w':World} (h:Below w.heap.size w w'):Kept w w':=⟨h.os,h.tape,h.output,h.size,fun bl hb=>h.block bl hb⟩
def RZ (ro:Nat→Option Obj) (w w':World):Nat→Option Obj:=fun b=>if b < w.heap.size then ro b else w'.heap[b]?
theorem ads {tabs:List (Nat×List AV)} {ro:Nat→Option Obj} {w w':World} (hro:qY tabs ro w) (h:Below w.heap.size w w'):D8 ro (RZ ro w w') w w':=by
 letI:aC:=Tg [] [] 0
 refine ⟨Kept.of_below h,fun b o hb=>?_,fun b hb=>?_,fun b o hb=>?_⟩
 ·show (if _ then _ else _)=_
  rw [if_pos (qJ (hro.at' b o hb))];exact hb
 ·have hb':(if b < w.heap.size then ro b else w'.heap[b]?)≠none:=hb
  split at hb'
  ·exact .inl hb'
  ·next hn=>exact .inr (by omega)
 ·have hb':(if b < w.heap.size then ro b else w'.heap[b]?)=some o:=hb
  split at hb'
  ·next hn=>rw [h.block b hn];exact hro.at' b o hb'
  ·exact hb'
theorem arz {tabs:List (Nat×List AV)} {f:FuncId} (walk:∀ (s:ByteArray) (w:World) (ro:Nat→Option Obj),qY tabs ro w→s.size≤9223372036854775807→Calls P f #[.string s] w fun e w'=>e=.returned (.bool (Lib.validD s.data.toList))∧Below w.heap.size w w')
 (enters:∀args w,(callFunc f args).run P w=.ok (.enter f args) w) {gs out:List GV} (h:DW gs=some out):aI P tabs f [] [.sc] gs out:=by
 unfold DW at h
 split at h
 rotate_left
 ·cases h
 next x=>
 split at h
 rotate_left
 ·cases h
 next hx=>
 cases h
 letI:aC:=Tg [] [] 0
 refine ⟨fun ro w vs hro hvs=>?_,rfl⟩
 simp only [aS,GR] at hvs
 obtain ⟨v,l,rfl,rfl,rfl⟩:=hvs
 refine .inr ⟨enters _ w,Calls.mono' (walk ⟨⟨x⟩⟩ w ro hro hx) ?_⟩
 rintro e w' ⟨rfl,hb⟩
 exact ⟨_,rfl,RZ ro w w',ads hro hb,[_],rfl,by simp [aS,GR]⟩
end
end Go.aP
