/- A step that changes one block alone. -/
import Derived.Test.YteenmipdepcibaaGreatDoorAbsJ
import Derived.Shelf.SlSortFuncK.WholeK
import Derived.Shelf.GgSortFunc.Tiny
import Derived.Sort.LotA
import Derived.Shelf.SlSortCmp.WholeK
set_option linter.unusedSimpArgs false
set_option linter.unusedSectionVars false
set_option linter.unusedVariables false
namespace Go.aN
noncomputable section
variable{P:Program}
structure aj2(bl:Nat)(ro ro':Qf)(w w':World):Prop where
 kept:Qw ⟨w,λb=>b=bl,λ_=>none⟩ w'
 le:∀b o,ro b=some o->ro' b=some o
 new:∀b,ro' b≠none->ro b≠none\/w.heap.size<=b
 at':∀b o,ro' b=some o->w'.heap[b]? =some o
 off:ro' bl=none
section
variable[aH]
theorem St.auA{F:Env}{J:aA}{w w':World}{ro':Qf}(h:SR P F J w){id:Nat}{o o':bn}{q:Place}(hg:J.get id=some o)(ho:o.own=true)(ho':o'.own=true)(hl:J.lock<=id)(hq:F id=some q)
 (k:aj2 q.bl F.ro ro' w w') (hr:OR P ⟨F.pl,ro',F.gh⟩ q w' o'):St P F J w ⟨F.pl,ro',F.gh⟩ (J.put id o') w':=by
 have hle:(F:Env).le ⟨F.pl,ro',F.gh⟩:=⟨λ_ _ h=>h,k.le,λ_ h=>h⟩
 have get:∀i u,(J.put id o').get i=some u->(i=id/\u=o')\/(i≠id/\J.get i=some u):=by
  intro i u hi;rw[aA.get_put]at hi;split at hi
  ·next e=>cases hi;exact .inl ⟨e,rfl⟩
  ·next e=>exact .inr ⟨e,hi⟩
 have own:∀i u,(J.put id o').get i=some u->u.own=true->∃u0,J.get i=some u0/\u0.own=true:=by
  intro i u hi hu;rcases get i u hi with⟨rfl,rfl⟩|⟨_,h1⟩
  ·exact⟨o,hg,ho⟩
  ·exact⟨u,h1,hu⟩
 have any:∀i u,(J.put id o').get i=some u->∃u0,J.get i=some u0:=by
  intro i u hi;rcases get i u hi with⟨rfl,rfl⟩|⟨_,h1⟩
  ·exact⟨o,hg⟩
  ·exact⟨u,h1⟩
 refine⟨hle,⟨h.mg,h.dom,λi u hi=>?_,h.jH,λi u i' u' p p' a1 a2 a3 a4 a5 a6=>?_,k.at',λi u p a1 a2 a3=>?_,λp hp=>(h.tabs p hp).mono hle⟩,k.kept.size,λbl hb hno=>?_,λi u p h1 h2 h3 h4=>?_,k.kept.os,k.kept.tape,k.kept.output,rfl,bV _,λ_ h=>.inl h,λb hb=>?_⟩
 ·rcases get i u hi with⟨rfl,rfl⟩|⟨hne,h1⟩
  ·exact .inl ⟨q,hq,hr⟩
  ·refine((h.live i u h1).heap λp hp hor=>k.kept.keep _ hor.lt ?_).mono hle
   intro e;exact h.sep id o i u q p hg ho h1 (λe=>hne e.symm) hq hp e.symm
 ·obtain⟨v,v1,v2⟩:=own i u a1 a2;obtain⟨v',v1'⟩:=any i' u' a3;exact h.sep i v i' v' p p' v1 v2 v1' a4 a5 a6
 ·rcases get i u a1 with⟨rfl,rfl⟩|⟨_,h1⟩
  ·have:(F:Env) i=some p:=a3;rw[hq]at this;cases this;exact k.off
  ·have hor:=h.at h1 (show F i=some p from a3);cases hro:ro' p.bl with
   |none=>exact hro
   |some o2=>
    rcases k.new p.bl (by rw[hro];simp)with h2|h2
    ·exact absurd (h.kN i u p h1 a2 a3) h2
    ·have:=hor.lt;omega
 ·exact k.kept.keep bl hb λe=>hno id o q hg ho hl hq e.symm
 ·obtain⟨v,v1,v2⟩:=own i u h1 h2;exact .inr ⟨i,v,p,v1,v2,h3,h4,rfl⟩
 ·rcases k.new b hb with h1|h1
  ·exact .inl h1
  ·exact .inr (.inl h1)
end
end
open Go.Sort Go.Proofs
noncomputable section
variable{P:Program}
theorem J8:∀a b:Q0,Op.bytesLess a b=decide (a<b)
 |_,[]=>by simp[Op.bytesLess]
 |[],_::_=>by simp[Op.bytesLess]
 |a::x,b::y=>by rw[Op.bytesLess,J8 x y,wU];simp[ab9]
theorem atn{α:Type}(xs:List α)(d:α):(List.range xs.length).map (λi=>xs.getD i d)=xs:=by
 apply JG;intro k;rw[iP];by_cases h:k<xs.length
 ·rw[ach h,bK h];simp[List.getD,bK h]
 ·rw[vG (by simp;omega),vG (by omega)];rfl
structure aBr(P:Program)(fS g tS:Nat):Prop where
 big:∀(enc:Nat->List Value)(lt:Nat->Nat->Bool)(lb:QQ)(blk off c:Nat)(d:Array Nat)(w:World),(∀x,(enc x).length=3)->(∀x,∀v∈enc x,v.oneCell'=true)->SWO lt->2<=d.size->d.size<4611686018427387904->
  LessReadsK P g lb enc 3 lt blk off d.size w->HoldsK enc 3 w blk off d->blk<w.heap.size->
  Calls P fS #[.iface tS (.slice (some ⟨blk,off,none⟩) d.size c),.func (.func g) #[] lb] w λe w'=>e=.returned (.tuple #[])/\∃n os,w'=grow (putRowK enc 3 (Sort.ahead w n) blk off (pdq lt d 0 d.size (Lib.bitLen d.size) true true)) os
 tiny:∀(p:Wz)(n c:Nat)(lb:QQ)(w:World),n<=1->Calls P fS #[.iface tS (.slice p n c),.func (.func g) #[] lb] w λe w'=>e=.returned (.tuple #[])/\∃os,w'=grow w os
 less:∀(blk off c Bs size:Nat)(W:World)(G:Nat->ByteArray),W.cell? ⟨Bs,0,none⟩=some (.slice (some ⟨blk,off,none⟩) size c)->(∀t,t<size->W.cell? ⟨blk,off+t*3+2,none⟩=some (.string (G t)))->
  ∀i j:Nat,i<size->j<size->Calls P g #[.int .i64 i,.int .i64 j,.pointer (some ⟨Bs,0,none⟩)] W λe w'=>e=.returned (.bool (Op.bytesLess (G i).toList (G j).toList))/\∃q,w'=W.drewN q
 enters:∀args w,(callFunc fS args).run P w=.ok (.enter fS args) w
section
variable[gG]
end
theorem St.ah8[aH]{F:Env}{J:aA}{w:World}(h:SR P F J w){id:Nat}{o o':bn}(hg:J.get id=some o)(ho:o.own=true)(ho':o'.own=true)(hl:Live P F w id o'):St P F J w F (J.put id o') w:=by
 have get:∀i u,(J.put id o').get i=some u->(i=id/\u=o')\/(i≠id/\J.get i=some u):=by
  intro i u hi;rw[aA.get_put]at hi;split at hi
  ·next e=>cases hi;exact .inl ⟨e,rfl⟩
  ·next e=>exact .inr ⟨e,hi⟩
 have own:∀i u,(J.put id o').get i=some u->u.own=true->∃u0,J.get i=some u0/\u0.own=true:=by
  intro i u hi hu;rcases get i u hi with⟨rfl,rfl⟩|⟨_,h1⟩
  ·exact⟨o,hg,ho⟩
  ·exact⟨u,h1,hu⟩
 have any:∀i u,(J.put id o').get i=some u->∃u0,J.get i=some u0:=by
  intro i u hi;rcases get i u hi with⟨rfl,rfl⟩|⟨_,h1⟩
  ·exact⟨o,hg⟩
  ·exact⟨u,h1⟩
 refine⟨Env.le.refl _,⟨h.mg,h.dom,λi u hi=>?_,h.jH,λi u i' u' p p' a1 a2 a3 a4 a5 a6=>?_,h.iT,λi u p a1 a2 a3=>?_,h.tabs⟩,bV _,λ_ _ _=>rfl,λi u p h1 h2 h3 h4=>?_,rfl,rfl,rfl,rfl,bV _,λ_ h=>.inl h,λ_ h=>.inl h⟩
 ·rcases get i u hi with⟨rfl,rfl⟩|⟨_,h1⟩
  ·exact hl
  ·exact h.live i u h1
 ·obtain⟨v,v1,v2⟩:=own i u a1 a2;obtain⟨v',v1'⟩:=any i' u' a3;exact h.sep i v i' v' p p' v1 v2 v1' a4 a5 a6
 ·obtain⟨v,v1,v2⟩:=own i u a1 a2;exact h.kN i v p v1 v2 a3
 ·obtain⟨v,v1,v2⟩:=own i u h1 h2;exact .inr ⟨i,v,p,v1,v2,h3,h4,rfl⟩
theorem aO.ones{ro:Qf}:∀{l:Q1}{vs:Q6},aO ro l vs->l.all GV.scalar=true->∀v∈vs,v.oneCell'=true
 |[],vs,h,_,v,hv=>by simp only[aO]at h;subst h;simp at hv
 |a::l,vs,h,hs,v,hv=>by
  simp only[aO]at h;obtain⟨x,xs,rfl,h1,h2⟩:=h;simp only[qK,aK]at hs;rcases bG.1 hv with rfl|hv
  ·letI:aH:=Tg [] [] 0
   rw[Pn];exact GR.nZ h1 hs.1
  ·exact aO.ones h2 hs.2 v hv
end
open Go.Sort Go.Proofs Go.RowKit
noncomputable section
variable{P:Program}
def Ji:GV->Int
 |.g [.i .u64 t,_,_,_,_]=>t
 |_=>0
def isTagged:GV->Bool
 |.g [.i .u64 _,_,_,_,_]=>true
 |_=>false
def xK(xs:Q1)(i:Nat):Int:=Ji (xs.getD i (.b false))
def GZ(a b:Int):Int:=if a<b then -1 else if b<a then 1 else 0
def Ag(xs:Q1)(i j:Nat):Int:=GZ (xK xs i) (xK xs j)
def jO(xs:Q1):Array Nat:=pdq (ltOf (Ag xs)) (Array.range xs.length) 0 (Array.range xs.length).size (Lib.bitLen (Array.range xs.length).size) true true
def vg(xs:Q1):Q1:=(jO xs).toList.map λi=>xs.getD i (.b false)
def P8:Q1->Option Q1
 |[.l xs]=>if xs.length<=281474976710656/\xs.all isTagged=true then some [.l (vg xs)]else none
 |_=>none
theorem UA(xs:Q1)(i j:Nat):ltOf (Ag xs) i j=decide (xK xs i<xK xs j):=by
 unfold ltOf Ag GZ;rw[wU];simp only[decide_eq_true_eq];split
 ·omega
 ·split<;>omega
theorem abj(xs:Q1):SWO (ltOf (Ag xs)) where
 irrefl x:=by rw[UA];simp
 trans x y z h1 h2:=by rw[UA]at *;simp only[decide_eq_true_eq]at *;omega
 ntrans x y z h1 h2:=by rw[UA]at *;simp only[decide_eq_false_iff_not]at *;omega
theorem Y6(xs:Q1):(jO xs).size=xs.length/\(jO xs).toList.Perm (List.range xs.length):=by
 obtain⟨h1,_,h3⟩:=(pdq_sorts (ltOf (Ag xs)) (abj xs) (Array.range xs.length) 0 (Array.range xs.length).size (Lib.bitLen (Array.range xs.length).size) true true (ql _) (bV _) (Or.inl rfl)).1;have h1':(jO xs).size=xs.length:=by unfold jO;rw[h1];simp
 refine⟨h1',?_⟩;have e1:(jO xs).extract 0 (Array.range xs.length).size=jO xs:=by have:=Array.extract_size (xs:=jO xs);rw[h1']at this;simpa using this
 have e2:(Array.range xs.length).extract 0 (Array.range xs.length).size=Array.range xs.length:=Array.extract_size;have h3':((jO xs).extract 0 (Array.range xs.length).size).toList.Perm ((Array.range xs.length).extract 0 (Array.range xs.length).size).toList:=h3;rw[e1,e2]at h3';simpa using h3'
theorem aa9(xs:Q1):(vg xs).Perm xs:=by have:=(Y6 xs).2.map (λi=>xs.getD i (.b false));rwa [atn]at this
theorem Vw(xs:Q1):(vg xs).length=xs.length:=(aa9 xs).length_eq
theorem azm(xs:Q1):∀i j:Nat,∀a b,i<j->(vg xs)[i]? =some a->(vg xs)[j]? =some b->Ji a<=Ji b:=by
 intro i j a b hij ha hb;unfold vg at ha hb;have hs:=(pdq_sorts (ltOf (Ag xs)) (abj xs) (Array.range xs.length) 0 (Array.range xs.length).size (Lib.bitLen (Array.range xs.length).size) true true (ql _) (bV _) (Or.inl rfl)).2;have hsz:=(Y6 xs).1;rw[iP]at ha hb;obtain⟨x,hx,rfl⟩:=aZ.1 ha;obtain⟨y,hy,rfl⟩:=aZ.1 hb;have hjl:j<(jO xs).size:=by have:=(eU.1 hy).1;simpa using this
 have h:=hs i j (ql _) hij (by simpa[hsz]using hjl);have ex:(jO xs)[i]! =x:=by
  have:=(eU.1 hx)
  rw[getElem!_pos _ i (by omega)];simpa using this.2
 have ey:(jO xs)[j]! =y:=by
  have:=(eU.1 hy)
  rw[getElem!_pos _ j hjl];simpa using this.2
 have h':ltOf (Ag xs) (jO xs)[j]! (jO xs)[i]! =false:=h;rw[ex,ey,UA,decide_eq_false_iff_not]at h';unfold xK at h';omega
structure acF(P:Program)(fS g:Nat):Prop where
 big:∀(enc:Nat->List Value)(cf:Nat->Nat->Int)(blk off c:Nat)(d:Array Nat)(w:World),(∀x,(enc x).length=5)->(∀x,∀v∈enc x,v.oneCell'=true)->SWO (ltOf cf)->CmpLays P g #[] enc 5 cf blk off d.size w->HoldsK enc 5 w blk off d->blk<w.heap.size->d.size<4611686018427387904->
  Calls P fS #[.slice (some ⟨blk,off,none⟩) d.size c,.func (.func g) #[] #[]] w λe w'=>e=.returned (.tuple #[])/\∃n os,w'=sortWorldK enc 5 w blk off n (pdq (ltOf cf) d 0 d.size (Lib.bitLen d.size) true true) os
 none:∀(p:Wz)(c:Nat)(w:World),Calls P fS #[.slice p 0 c,.func (.func g) #[] #[]] w λe w'=>e=.returned (.tuple #[])/\w'=w
 cmp:∀(a b:Int)(a1 a2 a3 a4 b1 b2 b3 b4:Value)(W:World),(∀v∈[a1,a2,a3,a4,b1,b2,b3,b4],v.oneCell'=true)->
  Calls P g #[.agg #[.int .u64 a,a1,a2,a3,a4],.agg #[.int .u64 b,b1,b2,b3,b4]] W λe w'=>e=.returned (.int .i64 (GZ a b))/\∃q os',w'=grow (W.drewN q) os'
 enters:∀args w,(callFunc fS args).run P w=.ok (.enter fS args) w
section
variable[gG]
def ZY(k g:Nat):dX:=λargs J=>match args with
 |[.sv id n,.fn g' [] []]=>match J.get id with
  |some (.vec n0 et f)=>
   if Nat.beq g' g&&Nat.beq n0 n&&Nat.ble J.lock id then
    match fF (.call k [n] 0)with
    |some m=>match fF (.same n m)with
     |some m'=>some (.dP [],J.put id (.vec m' et f))
     |none=>none
    |none=>none
   else none
  |_=>none
 |_=>none
end
theorem aAg{ro:Qf}{x:GV}{y:Value}(hx:isTagged x=true)(h:GR ro x y):∃a b c d,y=.agg #[.int .u64 (Ji x),a,b,c,d]:=by
 unfold isTagged at hx;split at hx
 ·next t g1 g2 g3 g4=>
  simp only[GR,aO]at h;obtain⟨vs,rfl,v0,l0,rfl,rfl,a,l,rfl,_,b,l2,rfl,_,c,l3,rfl,_,d,l4,rfl,_,rfl⟩:=h;exact⟨a,b,c,d,rfl⟩
 ·cases hx
theorem auH{ro:Qf}{x:GV}{y:Value}(hx:isTagged x=true)(h:GR ro x y)(hs:x.cells.all GV.scalar=true):∀v∈y.cells.toList,v.oneCell'=true:=by
 unfold isTagged at hx;split at hx
 ·simp only[GR]at h;obtain⟨vs,rfl,h⟩:=h;exact aO.ones h hs
 ·cases hx
theorem adC{ys:Q6}{sz:Nat}(h0:0<sz)(h:∀y∈ys,y.cells.size=sz){j:Nat}(hj:j<ys.length*sz):(bY ys)[j]? =some ((ys.getD (j/sz) undef).cells.toList.getD (j%sz) undef):=by
 letI:aH:=Tg [] [] 0
 have hlt:j/sz<ys.length:=(Nat.div_lt_iff_lt_mul h0).2 hj;have hmod:j%sz<sz:=Nat.mod_lt _ h0;have hy:=bK hlt;have:=adB h hy (j%sz) hmod;rw[show j/sz*sz+j%sz=j by rw[Gg];exact Nat.div_add_mod j sz]at this;rw[this];have hs:=h _ (gK hlt);rw[BH (by omega)];simp[List.getD,hy,hs,hmod]
theorem azk{T:aH}{fS g k:Nat}(Fx:acF P fS g)(hI:∀gs out,T.I k gs=some out->P8 gs=some out):@dN T P fS (@ZY T.togG k g):=by
 letI:=T
 intro args J r J' hs F w vs hS hv;unfold ZY at hs;split at hs;rotate_left
 ·cases hs
 next Xt n g'=>
 split at hs;rotate_left
 ·cases hs
 next n0 et f hgv=>
 split at hs;rotate_left
 ·cases hs
 next hcnd=>
 simp only[aK]at hcnd;obtain⟨⟨c2,c3⟩,c6⟩:=hcnd;have c2:=(bD c2).symm;have c3:=(bD c3).symm;have c6:=sO c6;subst c2;subst c3;split at hs;rotate_left
 ·cases hs
 next m0 hm0=>
 split at hs;rotate_left
 ·cases hs
 next m hm=>
 cases hs;obtain⟨x,xs1,rfl,hx,hxs⟩:=hv;obtain⟨y,ys1,rfl,hy,hys⟩:=hxs;simp only[aC]at hys;subst hys;simp only[VR,aC]at hy;obtain⟨us,vs,rfl,rfl,rfl⟩:=hy;simp only[VR]at hx;obtain⟨xs,hxv,hx⟩:=hx;obtain⟨g0,k1,k2⟩:=gB hm0;simp only[Nd.den,valsOf,hxv]at k2;split at k2;rotate_left
 ·cases k2
 next out hout=>
 have hsp:=hI _ _ hout;simp only[P8]at hsp;split at hsp;rotate_left
 ·cases hsp
 next hok=>
 cases hsp;simp only[jS,aW]at k2;subst k2;obtain⟨hlen,hall⟩:=hok;obtain⟨gm,m1,m2⟩:=gB hm;have k1':aH.val m0=some (.l (vg xs)):=k1;simp only[Nd.den,hxv,k1']at m2;rw[aj (Vw xs)]at m2;simp only[aW]at m2;subst m2;have fin:∀{F':Env}{J2:aA}{w':World},St P F J w F' J2 w'->∃F' ,St P F J w F' J2 w'/\VR F' (.dP []) (.tuple #[]):=λh=>⟨_,h,by simp only[VR];exact⟨[],rfl,by simp[aC]⟩⟩
 rcases hx with⟨q,hq,hle,rfl⟩|⟨hgh,hnil,rfl⟩
 rotate_left
 ·
   subst hnil;refine .inr ⟨Fx.enters _ w,Calls.mono' (Fx.none none 0 w) ?_⟩;rintro e w' ⟨rfl,hw⟩
   rw[hw];have hs0:vg []=[]:=jw (Vw []);rw[hs0]at m1;obtain⟨F',f1,f2⟩:=fin (St.ah8 (o':=.vec m et f) hS hgv rfl rfl (.inr ⟨hgh,m,et,f,rfl,m1⟩));exact⟨_,rfl,F',f1,f2⟩
 have hov:=hS.at hgv hq;obtain⟨xs',cs,He,Ho,ys,o1,o2,o3,o4,o5,o6,o7,o8,o9⟩:=hov;rw[hxv]at o1;cases o1;have hyl:ys.length=xs.length:=o3.length.symm;by_cases h2:xs.length=0
 ·have hx0:xs=[]:=jw h2;have hsg:vg xs=xs:=by rw[hx0];exact jw (Vw [])
  rw[h2];refine .inr ⟨Fx.enters _ w,Calls.mono' (Fx.none _ _ w) ?_⟩;rintro e w' ⟨rfl,hw⟩
  rw[hw];obtain⟨F',f1,f2⟩:=fin (St.ah8 (o':=.vec m et f) hS hgv rfl rfl (.inl ⟨q,hq,xs,cs,He,Ho,ys,by rw[m1,hsg],o2,o3,o4,o5,o6,o7,o8,o9⟩));exact⟨_,rfl,F',f1,f2⟩
 have hrow:∀i,i<ys.length->∃a b c d,ys.getD i undef=.agg #[.int .u64 (xK xs i),a,b,c,d]:=by
  intro i hi;have hxi:xs[i]? =some (xs[i]'(by omega)):=bK _;obtain⟨y,hy1,hy2⟩:=o3.at hxi;have hki:xK xs i=Ji (xs[i]'(by omega)):=by unfold xK;simp[List.getD,hxi]
  obtain⟨a,b,c,d,e⟩:=aAg (List.all_eq_true.1 hall _ (gK (by omega))) hy2;exact⟨a,b,c,d,by simp only[List.getD,hy1,qN,e,hki]⟩
 have hes:q.es=5:=by
  obtain⟨a,b,c,d,e⟩:=hrow 0 (by omega);have h0:ys.getD 0 undef∈ys:=by simp only[List.getD,bK (show 0<ys.length by omega),qN];exact gK _
  have:=o4 _ h0;rw[e]at this;exact this.symm
 have o4':∀y∈ys,y.cells.size=5:=λy hy=>by rw[o4 y hy,hes]
 let Om:Value:=.agg #[.int .u64 0,.bool false,.bool false,.bool false,.bool false]
 let enc:Nat->List Value:=λi=>(ys.getD i Om).cells.toList
 have YP:∀i,i<ys.length->enc i=(ys.getD i undef).cells.toList:=by
  intro i hi;show(ys.getD i Om).cells.toList=_
  simp[List.getD,bK hi]
 have afB:∀i,¬i<ys.length->enc i=[.int .u64 0,.bool false,.bool false,.bool false,.bool false]:=by
  intro i hi;show(ys.getD i Om).cells.toList=_
  simp[List.getD,vG (show ys.length<=i by omega)];rfl
 have hk5:∀i,∃a b c d,enc i=[.int .u64 (xK xs i),a,b,c,d]:=by
  intro i;by_cases hi:i<ys.length
  ·obtain⟨a,b,c,d,e⟩:=hrow i hi;exact⟨a,b,c,d,by rw[YP i hi,e];rfl⟩
  ·refine⟨.bool false,.bool false,.bool false,.bool false,?_⟩;rw[afB i hi];have:xK xs i=0:=by unfold xK;simp[List.getD,vG (show xs.length<=i by omega),Ji]
   rw[this]
 have YO:∀i,(enc i).length=5:=by intro i;obtain⟨a,b,c,d,e⟩:=hk5 i;rw[e];rfl
 have hone:∀i,∀v∈enc i,v.oneCell'=true:=by
  intro i v hv;by_cases hi:i<ys.length
  ·rw[YP i hi]at hv;have hxi:xs[i]? =some (xs[i]'(by omega)):=bK _;obtain⟨y,hy1,hy2⟩:=o3.at hxi;have:ys.getD i undef=y:=by simp[List.getD,hy1]
   rw[this]at hv;have hsc:=o8 _ (gK (show i<xs.length by omega));exact auH (List.all_eq_true.1 hall _ (gK (by omega))) hy2 hsc v hv
  ·rw[afB i hi]at hv;simp only[bG,F9,or_false]at hv;rcases hv with rfl|rfl|rfl|rfl|rfl<;>rfl
 have hdr:∀i,i<xs.length->(Array.range xs.length)[i]! =i:=by intro i hi;rw[getElem!_pos _ i (by simpa using hi)];simp
 have hH:HoldsK enc 5 w q.bl q.ba (Array.range xs.length):=by
  intro j hj;rw[size_flatK,abS]at hj;rw[get_flatK _ _ _ _ (by rw[abS];exact hj),hdr _ (by omega),YP _ (by omega)];have h1:=o5 j _ (adC (by omega) o4' (by omega));refine⟨?_,?_⟩
  ·simp only[World.cell?,o2];rw[ah (by simp),h1];have:((ys.getD (j/5) undef).cells.toList).length=5:=by
    have h0:ys.getD (j/5) undef∈ys:=by simp only[List.getD,bK (show j/5<ys.length by omega),qN];exact gK _
    simpa using o4' _ h0
   rw[getElem!_pos _ (j%5) (by omega)];show some (((ys.getD (j/5) undef).cells.toList)[j%5]?.getD undef)=some (((ys.getD (j/5) undef).cells.toList)[j%5]'_)
   rw[bK (show j%5<((ys.getD (j/5) undef).cells.toList).length by omega)];rfl
  ·have hsz:j<q.sz:=by rw[hes]at o6;omega
   have:=o7.free rfl j hsz;simp only[World.frozen?,o2];simpa using λh=>by omega
 have hlt:Array.size (Array.range xs.length)=xs.length:=abS;have hblk:q.bl<w.heap.size:=uP o2;have hcmp:CmpLays P g #[] enc 5 (Ag xs) q.bl q.ba (Array.range xs.length).size w:=by
  intro mm os dk hds i j;obtain⟨a1,a2,a3,a4,e1⟩:=hk5 i;obtain⟨b1,b2,b3,b4,e2⟩:=hk5 j;have h1:=Fx.cmp (xK xs i) (xK xs j) a1 a2 a3 a4 b1 b2 b3 b4 (sortWorldK enc 5 w q.bl q.ba mm dk os) (by
   intro v hv;simp only[bG,F9,or_false]at hv;have i1:=hone i;have i2:=hone j;rw[e1]at i1;rw[e2]at i2;rcases hv with rfl|rfl|rfl|rfl|rfl|rfl|rfl|rfl
   ·exact i1 _ (by simp)
   ·exact i1 _ (by simp)
   ·exact i1 _ (by simp)
   ·exact i1 _ (by simp)
   ·exact i2 _ (by simp)
   ·exact i2 _ (by simp)
   ·exact i2 _ (by simp)
   ·exact i2 _ (by simp))
  rw[e1,e2];exact h1
 have hc:=Fx.big enc (Ag xs) q.bl q.ba (q.sz/q.es) (Array.range xs.length) w YO hone (abj xs) hcmp hH hblk (by omega);rw[hlt]at hc;refine .inr ⟨Fx.enters _ w,Calls.mono' hc ?_⟩;rintro e w' ⟨rfl,nn,os,rfl⟩
 have hidx:pdq (ltOf (Ag xs)) (Array.range xs.length) 0 xs.length (Lib.bitLen xs.length) true true=jO xs:=by unfold jO;rw[hlt]
 rw[hidx];obtain⟨p1,p2⟩:=Y6 xs;have hmem:∀i∈(jO xs).toList,i<xs.length:=λi hi=>yN.1 (p2.mem_iff.1 hi);unfold sortWorldK;have hheap:(grow (putRowK enc 5 (Sort.ahead w nn) q.bl q.ba (jO xs)) os).heap[q.bl]? =some (.cells (Go.Sort.putCells id q.ba (flatK enc 5 (jO xs)) cs) He Ho):=by
  show((w.heap.modify q.bl (onCells (Go.Sort.putCells id q.ba (flatK enc 5 (jO xs)))))++os)[q.bl]? =_
  rw[Wv (by simpa using hblk),Jw,aj rfl,o2];rfl
 have hother:∀bl,bl<w.heap.size->bl≠q.bl->(grow (putRowK enc 5 (Sort.ahead w nn) q.bl q.ba (jO xs)) os).heap[bl]? =w.heap[bl]?:=by
  intro bl h1 h2;show((w.heap.modify q.bl (onCells (Go.Sort.putCells id q.ba (flatK enc 5 (jO xs)))))++os)[bl]? =_
  rw[Wv (by simpa using h1),Jw,ah (λe=>h2 e.symm)]
 let ys':Q6:=(jO xs).toList.map λi=>ys.getD i Om
 have Y5:∀y∈ys',y.cells.size=5:=by intro y hy;obtain⟨i,hi,rfl⟩:=qj.1 hy;have:=YO i;simpa[enc]using this
 have hcells:EC (Go.Sort.putCells id q.ba (flatK enc 5 (jO xs)) cs) q.ba (bY ys'):=by
  intro kk v hkv;have aCT:ys'.length=xs.length:=by simp[ys',p1]
  have hkl:kk<ys'.length*5:=by have:=(eU.1 hkv).1;rwa [ED Y5]at this
  rw[adC (by omega) Y5 hkl]at hkv;cases hkv;have hsz:kk<q.sz:=by rw[hes]at o6;omega
  have hin:q.ba+kk<cs.size:=by have:=o7.fits;omega
  unfold Go.Sort.putCells;rw[Array.getElem?_mapIdx,BH hin];simp only[gI,size_flatK,p1];rw[aj ⟨by omega,by omega⟩,WV,get_flatK _ _ _ _ (by rw[p1];omega)];have hki:kk/5<(jO xs).size:=by omega
  have e1:ys'.getD (kk/5) undef=ys.getD (jO xs)[kk/5]! Om:=by simp only[ys',List.getD,iP];rw[getElem!_pos _ (kk/5) hki];simp[hki]
  rw[e1];have e2:=YO (jO xs)[kk/5]!;show some (id ((enc (jO xs)[kk/5]!)[kk%5]!))=some ((enc (jO xs)[kk/5]!).getD (kk%5) undef)
  rw[getElem!_pos _ (kk%5) (by omega)];simp only[List.getD,bK (show kk%5<(enc (jO xs)[kk/5]!).length by omega),qN,id]
 have arJ:aO F.ro (vg xs) ys':=by unfold vg;refine aO.ofFn _ λi hi=>?_;have hil:=hmem i hi;have hxi:xs[i]? =some (xs[i]'hil):=bK _;obtain⟨y,hy1,hy2⟩:=o3.at hxi;simp only[List.getD,hxi,hy1,qN];exact hy2
 have hsc:∀x∈vg xs,x.cells.all GV.scalar=true:=λx hx=>o8 x ((aa9 xs).mem_iff.1 hx)
 have s2:=St.auA (ro':=F.ro) (o':=.vec m et f) (w':=grow (putRowK enc 5 (Sort.ahead w nn) q.bl q.ba (jO xs)) os) hS hgv rfl rfl c6 hq
  ⟨⟨rfl,rfl,rfl,by simp[putRowK],λbl h1 h2=>hother bl h1 h2⟩,λ_ _ h=>h,λb hb=>.inl hb,λb o hb=>by have hb1:=hS.iT b o hb;rw[hother b (uP hb1) (λe=>by subst e;rw[hS.kN Xt _ q hgv rfl hq]at hb;cases hb)];exact hb1,hS.kN Xt _ q hgv rfl hq⟩
  ⟨vg xs,_,He,Ho,ys',m1,hheap,arJ,λy hy=>by rw[Y5 y hy,hes],hcells,by rw[Vw];exact o6,
   {fits:=by simpa[Go.Sort.putCells]using o7.fits,le:=o7.le,shut:=o7.shut,cell:=λkk a hk=>by simp at hk,free:=o7.free,whole:=λh=>by obtain⟨a1,a2,a3⟩:=o7.whole h;exact⟨a1,by simpa[Go.Sort.putCells]using a2,a3⟩,room:=o7.room},hsc,o9⟩
 obtain⟨F',f1,f2⟩:=fin s2;exact⟨_,rfl,F',f1,f2⟩
