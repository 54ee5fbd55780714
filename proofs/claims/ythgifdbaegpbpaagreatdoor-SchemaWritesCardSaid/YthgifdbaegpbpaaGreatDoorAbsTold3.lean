/- A function without arguments whose answer one run tells: its contract. -/
import Derived.Test.YthgifdbaegpbpaaGreatDoorAbsJ
namespace Go.aP
noncomputable section
set_option linter.unusedSectionVars false
set_option linter.unusedVariables false
variable {P:Program}
def lq:List (List UInt8):=[[97,108,108,111,119,101,100],
 [98,97,115,101],
 [99,104,111,115,101,110],
 [99,111,100,101],
 [99,111,115,116],
 [100,101,97,100,108,105,110,101],
 [100,101,115,99,114],
 [100,105,103,101,115,116],
 [101,112,111,99,104],
 [102,108,97,103,115],
 [105,100],
 [108,97,103],
 [109,97,120],
 [109,105,110],
 [110,97,109,101],
 [110,111,116,101],
 [112,114,105,111,114,105,116,121],
 [114,101,103,105,111,110],
 [114,101,109,97,105,110,105,110,103],
 [114,101,116,114,121],
 [116,97,98,108,101],
 [119,97,110,116]]
def Jt:List GV→Option (List GV)
 | []=>some [.l (lq.map .s)]
 | _=>none
theorem agR {T0:aC} {call:Caller} {f:FuncId} {σ0 σ':ah} {r:AV} {g:GV} (hcall:@l9 T0 P call) (h0:@rX T0 σ0 P.globals.size) (hl:σ0.lock=0) (hrun:call f [] σ0=some (r,σ')) (n:Nat) (hf:nI P σ' n r=some (iG g)) (hg:g.scalar=true) :
 aI P T0.tabs f [] [.sc] [] [g]:=by
 letI:=T0
 refine ⟨fun ro w vs hro hvs=>?_,by cases g<;>first | rfl | simp [GV.scalar] at hg⟩
 simp only [aS] at hvs
 subst hvs
 have hS:SR P (oM P.globals.size σ0 ro) σ0 w:=BA h0.1 (fun id o ho=>by
  obtain ⟨c,rfl,hm,hle⟩:=h0.2 id o ho
  obtain ⟨cs,elem,fr,h1,h2,h3⟩:=hro.tab _ hm
  exact ⟨hle,c,rfl,⟨cs,elem,fr,hro.at' _ _ h1,h2,h3⟩⟩) hro.at' (fun p hp=>hro.tab p hp)
 refine iZ.mono (Fn.QN hcall h0 hl rfl hrun n hf (oM P.globals.size σ0 ro) σ0 w [] hS rfl) ?_
 rintro v w' ⟨η',r',rfl,hst,hv⟩
 refine ⟨η'.ro,⟨hst.kept h0.own,hst.ext.ro,fun b hb=>?_,hst.rel.fP⟩,[v],rfl, ?_⟩
 ·rcases hst.lU b hb with h | h | ⟨bW,o0,q0,h1,h2,_⟩
  ·exact .inl h
  ·exact .inr h
  ·rw [h0.own bW o0 h1] at h2;cases h2
 ·have:=(iQ g v).2 hv
  simp only [aS]
  exact ⟨v,[],rfl,this,rfl⟩
def ael:List Int:=[0,498536548,997073096,651767980,1994146192,1802195444,1303535960,1342533948,3988292384,4027552580,3604390888,3412177804,2607071920,2262029012,2685067896,3183342108]
def L8:List GV→Option (List GV)
 | []=>some [.g (ael.map fun n=>.i .u32 n)]
 | _=>none
theorem agS {T0:aC} {call:Caller} {f:FuncId} {σ0 σ':ah} {r:AV} {g:GV} {sh:List nU} (hcall:@l9 T0 P call) (h0:@rX T0 σ0 P.globals.size) (hl:σ0.lock=0) (hrun:call f [] σ0=some (r,σ')) (n:Nat) (hf:nI P σ' n r=some (iG g)) (hg:lC sh [g]=true) :
 aI P T0.tabs f [] sh [] [g]:=by
 letI:=T0
 refine ⟨fun ro w vs hro hvs=>?_,hg⟩
 simp only [aS] at hvs
 subst hvs
 have hS:SR P (oM P.globals.size σ0 ro) σ0 w:=BA h0.1 (fun id o ho=>by
  obtain ⟨c,rfl,hm,hle⟩:=h0.2 id o ho
  obtain ⟨cs,elem,fr,h1,h2,h3⟩:=hro.tab _ hm
  exact ⟨hle,c,rfl,⟨cs,elem,fr,hro.at' _ _ h1,h2,h3⟩⟩) hro.at' (fun p hp=>hro.tab p hp)
 refine iZ.mono (Fn.QN hcall h0 hl rfl hrun n hf (oM P.globals.size σ0 ro) σ0 w [] hS rfl) ?_
 rintro v w' ⟨η',r',rfl,hst,hv⟩
 refine ⟨η'.ro,⟨hst.kept h0.own,hst.ext.ro,fun b hb=>?_,hst.rel.fP⟩,[v],rfl, ?_⟩
 ·rcases hst.lU b hb with h | h | ⟨bW,o0,q0,h1,h2,_⟩
  ·exact .inl h
  ·exact .inr h
  ·rw [h0.own bW o0 h1] at h2;cases h2
 ·have:=(iQ g v).2 hv
  simp only [aS]
  exact ⟨v,[],rfl,this,rfl⟩
end
end Go.aP
