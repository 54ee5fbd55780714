/- sort.Slice over elements of our own, by their texts: what the kit's contract says of it, told of nodes. -/
import Derived.Test.YtilkjidelblkfaaGreatDoorAbsJ
import Derived.Test.YtilkjidelblkfaaGreatDoorAbsPtr
import Derived.Shelf.SlSortFuncK.WholeK
import Derived.Shelf.GgSortFunc.Tiny
import Derived.Sort.LotA
namespace Go.aJ
set_option linter.unusedSimpArgs false
open Go.Sort Go.Proofs
noncomputable section
set_option linter.unusedSectionVars false
set_option linter.unusedVariables false
variable {P:Program}
theorem HY:∀a b:List UInt8,Op.bytesLess a b=decide (a < b)
 | _,[]=>by simp [Op.bytesLess]
 | [],_::_=>by simp [Op.bytesLess]
 | a::x,b::y=>by
   rw [Op.bytesLess,HY x y,vF];simp [Zm]
theorem am5 {α:Type} (xs:List α) (d:α):(List.range xs.length).map (λi=>xs.getD i d)=xs:=by
 apply GX;intro k;rw [iF];by_cases h:k < xs.length
 ·rw [Zr h,bM h];simp [List.getD,bM h]
 ·rw [tZ (by simp;omega),tZ (by omega)];rfl
structure atE (P:Program) (fS g tS:Nat):Prop where
 big:∀ (enc:Nat->List Value) (lt:Nat->Nat->Bool) (lb:Array Value) (blk off c:Nat) (d:Array Nat) (w:World),(∀x,(enc x).length=3)->(∀x,∀v∈enc x,v.oneCell'=true)->SWO lt->2<=d.size->d.size < 4611686018427387904->
  LessReadsK P g lb enc 3 lt blk off d.size w->HoldsK enc 3 w blk off d->blk < w.heap.size->
  Calls P fS #[.iface tS (.slice (some ⟨blk,off,none⟩) d.size c),.func (.func g) #[] lb] w λe w'=>e=.returned (.tuple #[])/\∃n os,w'=grow (putRowK enc 3 (Sort.ahead w n) blk off (pdq lt d 0 d.size (Lib.bitLen d.size) true true)) os
 tiny:∀ (p:Option Addr) (n c:Nat) (lb:Array Value) (w:World),n<=1->Calls P fS #[.iface tS (.slice p n c),.func (.func g) #[] lb] w λe w'=>e=.returned (.tuple #[])/\∃os,w'=grow w os
 less:∀ (blk off c Bs size:Nat) (W:World) (G:Nat->ByteArray),W.cell? ⟨Bs,0,none⟩=some (.slice (some ⟨blk,off,none⟩) size c)->(∀t,t < size->W.cell? ⟨blk,off+t * 3+2,none⟩=some (.string (G t)))->
  ∀i j:Nat,i < size->j < size->Calls P g #[.int .i64 i,.int .i64 j,.pointer (some ⟨Bs,0,none⟩)] W λe w'=>e=.returned (.bool (Op.bytesLess (G i).toList (G j).toList))/\∃q,w'=W.drewN q
 enters:∀args w,(callFunc fS args).run P w=.ok (.enter fS args) w
section
variable [fZ]
end
theorem St.ae1 [aG] {η:Env} {σ:au} {w:World} (h:SR P η σ w) {id:Nat} {o o':aY} (hg:σ.get id=some o) (ho:o.own=true) (ho':o'.own=true) (hl:Live P η w id o'):St P η σ w η (σ.put id o') w:=by
 have get:∀i u,(σ.put id o').get i=some u->(i=id/\u=o')\/(i≠id/\σ.get i=some u):=by
  intro i u hi;rw [au.get_put] at hi;split at hi
  ·next e=>cases hi;exact .inl ⟨e,rfl⟩
  ·next e=>exact .inr ⟨e,hi⟩
 have own:∀i u,(σ.put id o').get i=some u->u.own=true->∃u0,σ.get i=some u0/\u0.own=true:=by
  intro i u hi hu;rcases get i u hi with ⟨rfl,rfl⟩ | ⟨_,h1⟩
  ·exact ⟨o,hg,ho⟩
  ·exact ⟨u,h1,hu⟩
 have any:∀i u,(σ.put id o').get i=some u->∃u0,σ.get i=some u0:=by
  intro i u hi;rcases get i u hi with ⟨rfl,rfl⟩ | ⟨_,h1⟩
  ·exact ⟨o,hg⟩
  ·exact ⟨u,h1⟩
 refine ⟨Env.le.refl _,⟨h.kY,h.dom,λi u hi=>?_,h.jq,λi u i' u' p p' a1 a2 a3 a4 a5 a6=>?_,h.iP,λi u p a1 a2 a3=>?_,h.tabs⟩,dH _,λ_ _ _=>rfl,λi u p h1 h2 h3 h4=>?_,rfl,rfl,rfl,rfl,dH _,λ_ h=>.inl h,λ_ h=>.inl h⟩
 ·rcases get i u hi with ⟨rfl,rfl⟩ | ⟨_,h1⟩
  ·exact hl
  ·exact h.live i u h1
 ·obtain ⟨v,v1,v2⟩:=own i u a1 a2
  obtain ⟨v',v1'⟩:=any i' u' a3;exact h.sep i v i' v' p p' v1 v2 v1' a4 a5 a6
 ·obtain ⟨v,v1,v2⟩:=own i u a1 a2
  exact h.ku i v p v1 v2 a3
 ·obtain ⟨v,v1,v2⟩:=own i u h1 h2
  exact .inr ⟨i,v,p,v1,v2,h3,h4,rfl⟩
theorem aK.ones {ro:Nat->Option Obj}:∀ {l:List GV} {vs:List Value},aK ro l vs->l.all GV.scalar=true->∀v∈vs,v.oneCell'=true
 | [],vs,h,_,v,hv=>by simp only [aK] at h;subst h;simp at hv
 | a::l,vs,h,hs,v,hv=>by
   simp only [aK] at h;obtain ⟨x,xs,rfl,h1,h2⟩:=h;simp only [sF,aI] at hs;rcases bC.1 hv with rfl | hv
   ·letI:aG:=Tg [] [] 0
    rw [Q7];exact GR.oD h1 hs.1
   ·exact aK.ones h2 hs.2 v hv
end
end Go.aJ
