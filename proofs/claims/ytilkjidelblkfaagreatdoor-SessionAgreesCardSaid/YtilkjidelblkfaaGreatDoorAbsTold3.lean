/- A function without arguments whose answer one run tells: its contract. -/
import Derived.Test.YtilkjidelblkfaaGreatDoorAbsJ
namespace Go.aJ
set_option linter.unusedSimpArgs false
noncomputable section
set_option linter.unusedSectionVars false
set_option linter.unusedVariables false
variable {P:Program}
def gQ:List (List UInt8):=[[97,108,108,111,119,101,100],
 [98,97,115,101],
 [99,104,111,115,101,110],
 [99,111,100,101],
 [99,111,115,116],
 [100,101,97,100,108,105,110,101],
 [100,101,115,99,114],
 [100,105,103,101,115,116],
 [101,112,111,99,104],
 [102,108,97,103,115],
 [105,100],
 [108,97,103],
 [109,97,120],
 [109,105,110],
 [110,97,109,101],
 [110,111,116,101],
 [112,114,105,111,114,105,116,121],
 [114,101,103,105,111,110],
 [114,101,109,97,105,110,105,110,103],
 [114,101,116,114,121],
 [116,97,98,108,101],
 [119,97,110,116]]
def QS:List GV->Option (List GV)
 | []=>some [.l (gQ.map .s)]
 | _=>none
theorem ah7 {T0:aG} {call:Caller} {f:FuncId} {σ0 σ':au} {r:AV} {g:GV} (hcall:@qj T0 P call) (h0:@yJ T0 σ0 P.globals.size) (hl:σ0.lock=0) (hrun:call f [] σ0=some (r,σ')) (n:Nat) (hf:sV P σ' n r=some (jV g)) (hg:g.scalar=true) :
 sD P T0.tabs f [] [.sc] [] [g]:=by
 letI:=T0
 refine ⟨λro w vs hro hvs=>?_,by cases g<;>first | rfl | simp [GV.scalar] at hg⟩;simp only [aK] at hvs;subst hvs;have hS:SR P (vV P.globals.size σ0 ro) σ0 w:=J3 h0.1 (λid o ho=>by
  obtain ⟨c,rfl,hm,hle⟩:=h0.2 id o ho;obtain ⟨cs,elem,fr,h1,h2,h3⟩:=hro.tab _ hm;exact ⟨hle,c,rfl,⟨cs,elem,fr,hro.at' _ _ h1,h2,h3⟩⟩) hro.at' (λp hp=>hro.tab p hp)
 refine kE.mono (Fn.adW hcall h0 hl rfl hrun n hf (vV P.globals.size σ0 ro) σ0 w [] hS rfl) ?_;rintro v w' ⟨η',r',rfl,hst,hv⟩
 refine ⟨η'.ro,⟨hst.kept h0.own,hst.ext.ro,λb hb=>?_,hst.rel.iP⟩,[v],rfl, ?_⟩
 ·rcases hst.oZ b hb with h | h | ⟨dF,o0,q0,h1,h2,_⟩
  ·exact .inl h
  ·exact .inr h
  ·rw [h0.own dF o0 h1] at h2;cases h2
 ·have:=(kF g v).2 hv
  simp only [aK];exact ⟨v,[],rfl,this,rfl⟩
end
end Go.aJ
