/- Library functions that are told: slices.Clone, utf8.ValidString. -/
import Derived.Test.YtilkjidelblkfaaGreatDoorAbsJ
import Derived.Laws.AppendOwn
import Derived.Lib.ValidU
namespace Go.aJ
set_option linter.unusedSimpArgs false
open Go.RowKit
noncomputable section
set_option linter.unusedSectionVars false
set_option linter.unusedVariables false
variable {P:Program}
def H7 (bytes size:Nat):List GV->Option (List GV)
 | [.l xs]=>if xs.length * bytes<=140737488355328/\xs.all (GV.fA size)=true then some [.l xs] else none
 | _=>none
def JA:List GV->Option (List GV)
 | [.s x]=>if x.length<=9223372036854775807 then some [.b (Lib.validD x)] else none
 | _=>none
theorem Kept.of_below {w w':World} (h:Below w.heap.size w w'):Kept w w':=⟨h.os,h.tape,h.output,h.size,λbl hb=>h.block bl hb⟩
def Rq (ro:Nat->Option Obj) (w w':World):Nat->Option Obj:=λb=>if b < w.heap.size then ro b else w'.heap[b]?
theorem Ru {tabs:List (Nat×List AV)} {ro:Nat->Option Obj} {w w':World} (hro:wR tabs ro w) (h:Below w.heap.size w w'):He ro (Rq ro w w') w w':=by
 letI:aG:=Tg [] [] 0
 refine ⟨Kept.of_below h,λb o hb=>?_,λb hb=>?_,λb o hb=>?_⟩
 ·show (if _ then _ else _)=_
  rw [aj (uJ (hro.at' b o hb))];exact hb
 ·have hb':(if b < w.heap.size then ro b else w'.heap[b]?)≠none:=hb
  split at hb'
  ·exact .inl hb'
  ·next hn=>exact .inr (by omega)
 ·have hb':(if b < w.heap.size then ro b else w'.heap[b]?)=some o:=hb
  split at hb'
  ·next hn=>rw [h.block b hn];exact hro.at' b o hb'
  ·exact hb'
theorem aK.ones' {ro:Nat->Option Obj}:∀ {l:List GV} {vs:List Value},aK ro l vs->l.all GV.scalar=true->∀v∈vs,v.oneCell'=true
 | [],vs,h,_,v,hv=>by simp only [aK] at h;subst h;simp at hv
 | a::l,vs,h,hs,v,hv=>by
   simp only [aK] at h;obtain ⟨x,xs,rfl,h1,h2⟩:=h;simp only [sF,aI] at hs;rcases bC.1 hv with rfl | hv
   ·letI:aG:=Tg [] [] 0
    rw [Q7];exact GR.oD h1 hs.1
   ·exact aK.ones' h2 hs.2 v hv
theorem abn {ro:Nat->Option Obj} {x:GV} {y:Value} {size:Nat} (hx:x.fA size=true) (h:GR ro x y):y.cells.size=size/\∀v∈y.cells.toList,v.oneCell'=true:=by
 letI:aG:=Tg [] [] 0
 unfold GV.fA at hx;rw [aI] at hx;have h1:=bf hx.1;refine ⟨by rw [<- h1];exact (GR.aaI (η:=⟨λ_=>none,ro,λ_=>false⟩) h).symm, ?_⟩;cases x with
 | g cs=>
   simp only [GR] at h;obtain ⟨vs,rfl,h⟩:=h;exact aK.ones' h hx.2
 | l xs=>
   have ho:=GR.oD h (g:=.l xs) rfl;intro v hv;simp only [GR] at h;rcases h with ⟨_,p,rfl⟩ | ⟨_,_,_,_,_,rfl,_⟩<;>(simp [Value.cells] at hv;subst hv;rfl)
 | _=>
   simp only [GR] at h;subst h;intro v hv;simp [Value.cells] at hv;subst hv;rfl
theorem ahO {tabs:List (Nat×List AV)} {f size bytes:Nat} {e:TypeId} (h0:0 < size)
 (walk:∀ (a:Addr) (n c:Nat) (news:List Value) (w:World),news.length=n * size->(∀j u,news[j]? = some u->w.cell? (a.add j)=some u)->(∀u∈news,u.oneCell'=true)->n * bytes<=140737488355328->n<=maxLen->
  Calls P f #[.slice (some a) n c] w λer w'=>∃v',er=.returned v'/\w'.ownsRow w.heap.size e size v' n news/\Below w.heap.size w w')
 (nil:∀w,Calls P f #[.slice none 0 0] w λer w'=>er=.returned (.slice none 0 0)/\w'=w)
 (enters:∀args w,(callFunc f args).run P w=.ok (.enter f args) w) (hby:0 < bytes) {gs out:List GV} (h:H7 bytes size gs=some out):sD P tabs f [] [.sc] gs out:=by
 unfold H7 at h;split at h;rotate_left
 ·cases h
 next xs=>
 split at h;rotate_left
 ·cases h
 next hc=>
 cases h;obtain ⟨hlen,hall⟩:=hc;letI:aG:=Tg [] [] 0
 refine ⟨λro w vs hro hvs=>?_,rfl⟩;simp only [aK] at hvs;obtain ⟨v,l,rfl,hv,rfl⟩:=hvs;have hval:=hv;simp only [GR] at hv
 have fin:∀ (a:Addr) (c:Nat) (ys:List Value),aK ro xs ys->(∀j u,(dh ys)[j]? = some u->w.cell? (a.add j)=some u)->xs.length<=maxLen->v=.slice (some a) xs.length c->
  kE P f ⟨uU [] [v]⟩ w λv' w'=>∃ro',He ro ro' w w'/\∃us,v'=zL us/\aK ro' [.l xs] us:=by
  rintro a c ys hys hcell hmx rfl
  letI:aG:=Tg [] [] 0
  have hsz:∀y∈ys,y.cells.size=size:=by
   intro y hy;obtain ⟨k,hk⟩:=JJ hy;have hkl:k < xs.length:=by rw [hys.length];exact (dX.1 hk).1
   obtain ⟨y',hy1,hy2⟩:=hys.at (bM hkl);rw [hk] at hy1;cases hy1;exact (abn (List.all_eq_true.1 hall _ (gU hkl)) hy2).1
  have hone:∀u∈dh ys,u.oneCell'=true:=by
   intro u hu;obtain ⟨y,hy,hu⟩:=Zv.1 hu;obtain ⟨k,hk⟩:=JJ hy;have hkl:k < xs.length:=by rw [hys.length];exact (dX.1 hk).1
   obtain ⟨y',hy1,hy2⟩:=hys.at (bM hkl);rw [hk] at hy1;cases hy1;exact (abn (List.all_eq_true.1 hall _ (gU hkl)) hy2).2 u hu
  have hnl:(dh ys).length=xs.length * size:=by rw [Ez hsz,hys.length]
  refine .inr ⟨enters _ w,Calls.mono' (walk a xs.length c (dh ys) w hnl hcell hone hlen hmx) ?_⟩;rintro er w' ⟨v',rfl,hown,hbel⟩
  refine ⟨v',rfl,Rq ro w w',Ru hro hbel,[v'],rfl, ?_⟩;simp only [aK];refine ⟨_,_,rfl, ?_,rfl⟩;obtain ⟨_,hown⟩:=hown;simp only [GR];rcases hown with ⟨rfl,hn⟩ | ⟨g,cap,cur,rfl,hg,hb,hcap,_,hcs,htake⟩
  ·exact .inl ⟨List.eq_nil_of_length_eq_zero hn,_,rfl⟩
  ·right
   refine ⟨g,0,cap,ys,size,rfl,hcap,aK.mono (λb o hb=>(Ru hro hbel).le b o hb) _ _ hys,hsz,λhne=>⟨cur,e,(0,0), ?_, ?_, ?_⟩⟩
   ·show (if g < w.heap.size then ro g else w'.heap[g]?)=_
    rw [ah (by omega)];exact hb
   ·rw [hnl,hcs,jk];exact sH _ hcap
   ·intro k x hk
    rw [<- htake,kQ] at hk;split at hk
    ·simpa using hk
    ·cases hk
 have hmx:xs.length<=maxLen:=by
  have:xs.length<=xs.length * bytes:=agy _ hby
  unfold maxLen;omega
 rcases hv with ⟨rfl,p,rfl⟩ | ⟨bl,off,c,ys,sz,rfl,hc,hys,hsz,hmem⟩
 ·cases p with
  | none=>
    refine .inr ⟨enters _ w,Calls.mono' (nil w) ?_⟩;rintro er w' ⟨rfl,hw⟩
    rw [hw];exact ⟨_,rfl,ro,⟨Kept.refl w,λ_ _ h=>h,λ_ h=>.inl h,hro.at'⟩,[_],rfl,by simp only [aK];exact ⟨_,_,rfl,hval,rfl⟩⟩
  | some a=>exact fin a 0 [] (by simp [aK]) (by intro j u hj;simp [dh] at hj) hmx rfl
 ·refine fin ⟨bl,off,none⟩ c ys hys (λj u hj=>?_) hmx rfl
  have hne:xs≠[]:=by
   rintro rfl
   simp only [aK] at hys;subst hys;simp [dh] at hj
  obtain ⟨cs,elem,fr,h1,h2,h3⟩:=hmem hne;have hb:=hro.at' _ _ h1;have hadd:(Addr.mk bl off none).add j=⟨bl,off+j,none⟩:=by unfold Addr.add;split<;>simp_all
  rw [hadd];simp only [World.cell?,hb];rw [ah (by simp)];exact h3 j u hj
theorem as4 {tabs:List (Nat×List AV)} {f:FuncId} (walk:∀ (s:ByteArray) (w:World) (ro:Nat->Option Obj),wR tabs ro w->s.size<=9223372036854775807->Calls P f #[.string s] w λe w'=>e=.returned (.bool (Lib.validD s.data.toList))/\Below w.heap.size w w')
 (enters:∀args w,(callFunc f args).run P w=.ok (.enter f args) w) {gs out:List GV} (h:JA gs=some out):sD P tabs f [] [.sc] gs out:=by
 unfold JA at h;split at h;rotate_left
 ·cases h
 next x=>
 split at h;rotate_left
 ·cases h
 next hx=>
 cases h;letI:aG:=Tg [] [] 0
 refine ⟨λro w vs hro hvs=>?_,rfl⟩;simp only [aK,GR] at hvs;obtain ⟨v,l,rfl,rfl,rfl⟩:=hvs;refine .inr ⟨enters _ w,Calls.mono' (walk ⟨⟨x⟩⟩ w ro hro hx) ?_⟩;rintro e w' ⟨rfl,hb⟩
 exact ⟨_,rfl,Rq ro w w',Ru hro hb,[_],rfl,by simp [aK,GR]⟩
end
end Go.aJ
