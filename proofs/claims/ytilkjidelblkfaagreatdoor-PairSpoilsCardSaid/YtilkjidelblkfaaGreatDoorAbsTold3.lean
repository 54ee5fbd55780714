/- A function without arguments whose answer one run tells: its contract. -/
import Derived.Test.YtilkjidelblkfaaGreatDoorAbsJ
namespace Go.Abs
noncomputable section
set_option linter.unusedSectionVars false
set_option linter.unusedVariables false
variable {P:Program}
def namesL:List (List UInt8):=[[97,108,108,111,119,101,100],
 [98,97,115,101],
 [99,104,111,115,101,110],
 [99,111,100,101],
 [99,111,115,116],
 [100,101,97,100,108,105,110,101],
 [100,101,115,99,114],
 [100,105,103,101,115,116],
 [101,112,111,99,104],
 [102,108,97,103,115],
 [105,100],
 [108,97,103],
 [109,97,120],
 [109,105,110],
 [110,97,109,101],
 [110,111,116,101],
 [112,114,105,111,114,105,116,121],
 [114,101,103,105,111,110],
 [114,101,109,97,105,110,105,110,103],
 [114,101,116,114,121],
 [116,97,98,108,101],
 [119,97,110,116]]
def namesP:List GV->Option (List GV)
 | []=>some [.l (namesL.map .s)]
 | _=>none
theorem const_FnC {T0:TabsOf} {call:Caller} {f:FuncId} {σ0 σ':ASt} {r:AV} {g:GV} (hcall:@CallOk T0 P call) (h0:@TabStart T0 σ0 P.globals.size) (hl:σ0.lock=0) (hrun:call f [] σ0=some (r,σ')) (n:Nat) (hf:frz P σ' n r=some (gvAV g)) (hg:g.scalar=true) :
 FnC P T0.tabs f [] [.sc] [] [g]:=by
 letI:=T0
 refine ⟨λro w vs hro hvs=>?_,by cases g<;>first | rfl | simp [GV.scalar] at hg⟩
 simp only [GRs] at hvs
 subst hvs
 have hS:SR P (envOf P.globals.size σ0 ro) σ0 w:=SR_start h0.1 (λid o ho=>by
  obtain ⟨c,rfl,hm,hle⟩:=h0.2 id o ho
  obtain ⟨cs,elem,fr,h1,h2,h3⟩:=hro.tab _ hm
  exact ⟨hle,c,rfl,⟨cs,elem,fr,hro.at' _ _ h1,h2,h3⟩⟩) hro.at' (λp hp=>hro.tab p hp)
 refine CallN.mono (Fn.of_call hcall h0 hl rfl hrun n hf (envOf P.globals.size σ0 ro) σ0 w [] hS rfl) ?_
 rintro v w' ⟨η',r',rfl,hst,hv⟩
 refine ⟨η'.ro,⟨hst.kept h0.own,hst.ext.ro,λb hb=>?_,hst.rel.roAt⟩,[v],rfl, ?_⟩
 ·rcases hst.roNew b hb with h | h | ⟨id0,o0,q0,h1,h2,_⟩
  ·exact .inl h
  ·exact .inr h
  ·rw [h0.own id0 o0 h1] at h2;cases h2
 ·have:=(GR_VR g v).2 hv
  simp only [GRs]
  exact ⟨v,[],rfl,this,rfl⟩
def sumsL:List Int:=[0,498536548,997073096,651767980,1994146192,1802195444,1303535960,1342533948,3988292384,4027552580,3604390888,3412177804,2607071920,2262029012,2685067896,3183342108]
def sumsP:List GV->Option (List GV)
 | []=>some [.g (sumsL.map λn=>.i .u32 n)]
 | _=>none
theorem const_FnCg {T0:TabsOf} {call:Caller} {f:FuncId} {σ0 σ':ASt} {r:AV} {g:GV} {sh:List OSh} (hcall:@CallOk T0 P call) (h0:@TabStart T0 σ0 P.globals.size) (hl:σ0.lock=0) (hrun:call f [] σ0=some (r,σ')) (n:Nat) (hf:frz P σ' n r=some (gvAV g)) (hg:shFits sh [g]=true) :
 FnC P T0.tabs f [] sh [] [g]:=by
 letI:=T0
 refine ⟨λro w vs hro hvs=>?_,hg⟩
 simp only [GRs] at hvs
 subst hvs
 have hS:SR P (envOf P.globals.size σ0 ro) σ0 w:=SR_start h0.1 (λid o ho=>by
  obtain ⟨c,rfl,hm,hle⟩:=h0.2 id o ho
  obtain ⟨cs,elem,fr,h1,h2,h3⟩:=hro.tab _ hm
  exact ⟨hle,c,rfl,⟨cs,elem,fr,hro.at' _ _ h1,h2,h3⟩⟩) hro.at' (λp hp=>hro.tab p hp)
 refine CallN.mono (Fn.of_call hcall h0 hl rfl hrun n hf (envOf P.globals.size σ0 ro) σ0 w [] hS rfl) ?_
 rintro v w' ⟨η',r',rfl,hst,hv⟩
 refine ⟨η'.ro,⟨hst.kept h0.own,hst.ext.ro,λb hb=>?_,hst.rel.roAt⟩,[v],rfl, ?_⟩
 ·rcases hst.roNew b hb with h | h | ⟨id0,o0,q0,h1,h2,_⟩
  ·exact .inl h
  ·exact .inr h
  ·rw [h0.own id0 o0 h1] at h2;cases h2
 ·have:=(GR_VR g v).2 hv
  simp only [GRs]
  exact ⟨v,[],rfl,this,rfl⟩
end
end Go.Abs
