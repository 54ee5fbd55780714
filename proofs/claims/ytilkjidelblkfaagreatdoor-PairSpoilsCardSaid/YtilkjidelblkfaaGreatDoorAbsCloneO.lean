/- slices.Clone of a list of our own: an own list again. -/
import Derived.Test.YtilkjidelblkfaaGreatDoorAbsTold
namespace Go.Abs
open Go.RowKit
noncomputable section
set_option linter.unusedSectionVars false
set_option linter.unusedVariables false
variable {P:Program}
section
variable [NodesOf]
def pCloneO (k et:Nat):PFn:=λargs σ=>match args with
 | [.nils]=>some (.nils,σ)
 | [.sv id n]=>match σ.get id with
  | some (.vec n0 e f)=>
   if Nat.beq n0 n&&Nat.beq e et then
    match findNd (.call k [n] 0) with
    | some m=>some (.sv σ.next m,σ.new (.vec m et false))
    | none=>none
   else none
  | _=>none
 | _=>none
end
theorem GRs.onesO {ro:Nat->Option Obj}:∀ {l:List GV} {vs:List Value},GRs ro l vs->l.all GV.scalar=true->∀v∈vs,v.oneCell'=true
 | [],vs,h,_,v,hv=>by simp only [GRs] at h;subst h;simp at hv
 | a::l,vs,h,hs,v,hv=>by
  simp only [GRs] at h
  obtain ⟨x,xs,rfl,h1,h2⟩:=h
  simp only [List.all_cons,Bool.and_eq_true] at hs
  rcases List.mem_cons.1 hv with rfl | hv
  ·letI:TabsOf:=Tg [] [] 0
   rw [oneC_eq];exact GR.oneC h1 hs.1
  ·exact GRs.onesO h2 hs.2 v hv
theorem elem_cellsO {ro:Nat->Option Obj} {x:GV} {y:Value} {size:Nat} (hx:x.elemOk size=true) (h:GR ro x y):y.cells.size=size/\∀v∈y.cells.toList,v.oneCell'=true:=by
 letI:TabsOf:=Tg [] [] 0
 unfold GV.elemOk at hx
 rw [Bool.and_eq_true] at hx
 have h1:=Nat.eq_of_beq_eq_true hx.1
 refine ⟨by rw [<- h1];exact (GR.cellsLen (η:=⟨λ_=>none,ro,λ_=>false⟩) h).symm, ?_⟩
 cases x with
 | g cs=>
  simp only [GR] at h
  obtain ⟨vs,rfl,h⟩:=h
  exact GRs.onesO h hx.2
 | l xs=>
  have ho:=GR.oneC h (g:=.l xs) rfl
  intro v hv
  simp only [GR] at h
  rcases h with ⟨_,p,rfl⟩ | ⟨_,_,_,_,_,rfl,_⟩<;>(simp [Value.cells] at hv;subst hv;rfl)
 | _=>
  simp only [GR] at h
  subst h
  intro v hv
  simp [Value.cells] at hv
  subst hv;rfl
theorem St.adopt [TabsOf] {η:Env} {σ:ASt} {w w':World} (h:SR P η σ w) (hk:Kept w w') (o:AObj) (q:Place) (hq:w.heap.size<=q.bl)
 (ho:OR P (η.put σ.next q) q w' o):St P η σ w (η.put σ.next q) (σ.new o) w':=by
 have hle:=Env.put_le h q
 have hat:∀k,k < w.heap.size->w'.heap[k]? = w.heap[k]?:=hk.keep
 have hrolt:∀b o,η.ro b=some o->b < w.heap.size:=λb o hb=>getLt (h.roAt b o hb)
 refine ⟨hle,⟨?_, ?_, ?_,Env.put_gh h q (Nat.lt_succ_self _), ?_,λb o hb=>?_,λid o1 p a1 a2 a3=>?_,λp hp=>(h.tabs p hp).mono hle⟩,hk.size,λbl hbl _=>hat bl hbl, ?_,hk.os,hk.tape,hk.output,rfl,Nat.le_succ _, ?_,λ_ h=>.inl h⟩
 rotate_right
 ·rintro id (⟨p,hp⟩ | hg)
  ·simp only [Env.put] at hp
   split at hp
   ·next e=>subst e;exact .inr ⟨Nat.le_refl _,Nat.lt_succ_self _⟩
   ·exact .inl (.inl ⟨p,hp⟩)
  ·exact .inl (.inr hg)
 ·intro g hg;obtain ⟨sz,es,h1⟩:=h.glob g hg;exact ⟨sz,es,hle.pl _ _ h1⟩
 ·intro id p hp
  simp only [Env.put] at hp
  show id < σ.next+1
  split at hp
  ·omega
  ·have:=h.dom id p hp;omega
 ·intro id o' ho'
  rw [ASt.get_new] at ho'
  split at ho'
  ·next e=>cases ho';subst e;exact .inl ⟨q,by simp [Env.put],ho⟩
  ·exact ((h.live id o' ho').heap (w:=w) (λp _ hr=>hat _ hr.lt)).mono hle
 ·intro id o1 id' o2 p p' h1 h2 h3 h4 h5 h6
  rw [ASt.get_new] at h1 h3
  simp only [Env.put] at h5 h6
  split at h1<;>split at h3
  ·omega
  ·next e e'=>
   rw [if_pos e] at h5;rw [if_neg e'] at h6;cases h5
   have:=(h.at h3 h6).lt;omega
  ·next e e'=>
   rw [if_neg e] at h5;rw [if_pos e'] at h6;cases h6
   have:=(h.at h1 h5).lt;omega
  ·next e e'=>
   rw [if_neg e] at h5;rw [if_neg e'] at h6
   exact h.sep id o1 id' o2 p p' h1 h2 h3 h4 h5 h6
 ·exact (hat b (hrolt b o hb)).trans (h.roAt b o hb)
 ·rw [ASt.get_new] at a1
  simp only [Env.put] at a3 ⊢
  split at a1
  ·next e=>
   rw [if_pos e] at a3;cases a3
   cases hro:η.ro q.bl with
   | none=>rfl
   | some o2=>have:=hrolt _ _ hro;omega
  ·next e=>rw [if_neg e] at a3;exact h.roSep id o1 p a1 a2 a3
 ·intro id o1 p h1 h2 h3 h4
  rw [ASt.get_new] at h1
  simp only [Env.put] at h4
  split at h1
  ·next e=>rw [if_pos e] at h4;cases h4;left;exact hq
  ·next e=>rw [if_neg e] at h4;exact .inr ⟨id,o1,p,h1,h2,h3,h4,rfl⟩
theorem pCloneO_ok {T:TabsOf} {f size bytes k:Nat} {e:TypeId} (h0:0 < size) (hE:sizeT P e=some size) (he:e≠0)
 (walk:∀ (a:Addr) (n c:Nat) (news:List Value) (w:World),news.length=n * size->(∀j u,news[j]? = some u->w.cell? (a.add j)=some u)->(∀u∈news,u.oneCell'=true)->n * bytes<=140737488355328->n<=maxLen->
  Calls P f #[.slice (some a) n c] w λer w'=>∃v',er=.returned v'/\w'.ownsRow w.heap.size e size v' n news/\Below w.heap.size w w')
 (nil:∀w,Calls P f #[.slice none 0 0] w λer w'=>er=.returned (.slice none 0 0)/\w'=w)
 (enters:∀args w,(callFunc f args).run P w=.ok (.enter f args) w) (hby:0 < bytes) (hI:∀gs out,T.I k gs=some out->cloneP bytes size gs=some out):@PrimOk T P f (@pCloneO T.toNodesOf k e):=by
 letI:=T
 intro args σ r σ' hs η w vs hS hv
 unfold pCloneO at hs
 split at hs
 ·cases hs
  obtain ⟨x,xs1,rfl,hx,hxs⟩:=hv
  simp only [VRs] at hxs
  subst hxs
  simp only [VR] at hx
  subst hx
  refine .inr ⟨enters _ w,Calls.mono' (nil w) ?_⟩
  rintro er w' ⟨rfl,rfl⟩
  exact ⟨_,rfl,η,St.refl hS,by simp only [VR]⟩
 rotate_left
 ·cases hs
 next bid n=>
 split at hs
 rotate_left
 ·cases hs
 next n0 et fl hgv=>
 split at hs
 rotate_left
 ·cases hs
 next hcnd=>
 rw [Bool.and_eq_true] at hcnd
 obtain ⟨c1,c2⟩:=hcnd
 have c1:=Nat.eq_of_beq_eq_true c1
 have c2:=Nat.eq_of_beq_eq_true c2
 subst c1;subst c2
 split at hs
 rotate_left
 ·cases hs
 next m hm=>
 cases hs
 obtain ⟨x,xs1,rfl,hx,hxs⟩:=hv
 simp only [VRs] at hxs
 subst hxs
 simp only [VR] at hx
 obtain ⟨xs,hxv,hx⟩:=hx
 -- the node's value
 obtain ⟨gm,m1,m2⟩:=findNd_ok hm
 simp only [Nd.den,valsOf,hxv] at m2
 split at m2
 rotate_left
 ·cases m2
 next out hout=>
 have hsp:=hI _ _ hout
 simp only [cloneP] at hsp
 split at hsp
 rotate_left
 ·cases hsp
 next hok=>
 cases hsp
 simp only [List.getElem?_cons_zero,Option.some.injEq] at m2
 subst m2
 obtain ⟨hlen,hall⟩:=hok
 have ghost:∀w',Kept w w'->xs=[]->∃η',St P η σ w η' (σ.new (.vec m et false)) w'/\VR η' (.sv σ.next m) (.slice none 0 0):=by
  intro w' hk e
  subst e
  have s1:=St.of_kept hS hk
  have s2:=s1.trans (St.ghost (m:=m) (et:=et) (f:=false) s1.rel m1 rfl rfl (λ_ _ h=>h))
  refine ⟨_,s2, ?_⟩
  simp only [VR]
  exact ⟨[],m1,.inr (by simp [Env.ghost])⟩
 rcases hx with ⟨q,hq,hle,rfl⟩ | ⟨hgh,hnil,rfl⟩
 rotate_left
 ·refine .inr ⟨enters _ w,Calls.mono' (nil w) ?_⟩
  rintro er w' ⟨rfl,hw⟩
  obtain ⟨η',g1,g2⟩:=ghost w (Kept.refl w) hnil
  rw [hw]
  exact ⟨_,rfl,η',g1,g2⟩
 obtain ⟨xs',cs,elem2,fr2,ys,o1,o2,o3,o4,o5,o6,o7,o8,o9⟩:=hS.at hgv hq
 rw [hxv] at o1;cases o1
 have hes:q.es=size:=by
  have:=(o7.room rfl).2.2
  rw [hE] at this;cases this;rfl
 have hmx:xs.length<=maxLen:=by
  have:xs.length<=xs.length * bytes:=Nat.le_mul_of_pos_right _ hby
  unfold maxLen;omega
 have hsz:∀y∈ys,y.cells.size=size:=λy hy=>by rw [o4 y hy,hes]
 have hone:∀u∈cellsL ys,u.oneCell'=true:=by
  intro u hu
  obtain ⟨y,hy,hu⟩:=List.mem_flatMap.1 hu
  obtain ⟨j,hj⟩:=List.getElem?_of_mem hy
  have hjl:j < xs.length:=by rw [o3.length];exact (List.getElem?_eq_some_iff.1 hj).1
  obtain ⟨y',hy1,hy2⟩:=o3.at (List.getElem?_eq_getElem hjl)
  rw [hj] at hy1;cases hy1
  exact (elem_cellsO (List.all_eq_true.1 hall _ (List.getElem_mem hjl)) hy2).2 u hu
 have hnl:(cellsL ys).length=xs.length * size:=by rw [cellsL_length hsz,o3.length]
 have hcell:∀j u,(cellsL ys)[j]? = some u->w.cell? ((Addr.mk q.bl q.ba none).add j)=some u:=by
  intro j u hj
  have hadd:(Addr.mk q.bl q.ba none).add j=⟨q.bl,q.ba+j,none⟩:=by unfold Addr.add;split<;>simp_all
  rw [hadd]
  simp only [World.cell?,o2]
  rw [if_neg (by simp)]
  exact o5 j u hj
 refine .inr ⟨enters _ w,Calls.mono' (walk _ xs.length _ (cellsL ys) w hnl hcell hone hlen hmx) ?_⟩
 rintro er w' ⟨v',rfl,hown,hbel⟩
 have hk:=Kept.of_below hbel
 obtain ⟨_,hown⟩:=hown
 rcases hown with ⟨rfl,hn⟩ | ⟨g,cap,cur,rfl,hg,hb,hcap,_,hcs,htake⟩
 ·obtain ⟨η',g1,g2⟩:=ghost w' hk (List.eq_nil_of_length_eq_zero hn)
  exact ⟨_,rfl,η',g1,g2⟩
 ·have hdiv:cap * size / size=cap:=Nat.mul_div_cancel _ h0
  refine ⟨_,rfl,η.put σ.next ⟨g,0,cap * size,size⟩,St.adopt hS hk _ ⟨g,0,cap * size,size⟩ hg ?_, ?_⟩
  ·refine ⟨xs,cur,et,(0,0),ys,m1,hb,o3,hsz, ?_,Nat.mul_le_mul_right _ hcap, ?_,o8,λh=>by cases h⟩
   ·intro j u hj
    rw [<- htake,List.getElem?_take] at hj
    split at hj
    ·simpa using hj
    ·cases hj
   ·exact { fits:=(by simp;omega),le:=(by simp),shut:=(λh=>by cases h),cell:=(λkk a hk=>by simp at hk),free:=(λ_ kk _ hk=>by simp at hk),whole:=(λ_=>⟨rfl,by simp;omega,λh=>by cases h⟩),room:=(λ_=>⟨he,h0,hE⟩) }
  ·simp only [VR]
   exact ⟨xs,m1,.inl ⟨⟨g,0,cap * size,size⟩,by simp [Env.put],by simp only [hdiv];exact hcap,by simp only [hdiv]⟩⟩
