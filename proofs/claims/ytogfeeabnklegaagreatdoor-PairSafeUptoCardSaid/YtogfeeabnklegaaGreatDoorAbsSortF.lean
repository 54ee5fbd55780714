/- A step that changes one block alone. -/
import Derived.Test.YtogfeeabnklegaaGreatDoorAbsJ
import Derived.Shelf.SlSortFuncK.WholeK
import Derived.Shelf.GgSortFunc.Tiny
import Derived.Sort.LotA
import Derived.Shelf.SlSortCmp.WholeK
set_option linter.all false
namespace Go.aP
noncomputable section
variable{P:Program}
structure anC(bl:Nat)(ro ro':Qf)(w w':World):Prop where
 kept:Un ⟨w,λb=>b=bl,λ_=>none⟩ w'
 le:∀b o,ro b=some o->ro' b=some o
 new:∀b,ro' b≠none->ro b≠none\/w.heap.size<=b
 at':∀b o,ro' b=some o->w'.heap[b]? =some o
 off:ro' bl=none
section
variable[aJ]
def St.ayC{F:Env}{J:aC}{w w':World}{ro':Qf}(h:SR P F J w){id:Nat}{o o':bP}{q:Place}(g:J.get id=some o)(n:o.own=true)(I:o'.own=true)(L:J.lock<=id)(j:F id=some q)
 (k:anC q.bl F.ro ro' w w') (M:OR P ⟨F.pl,ro',F.gh⟩ q w' o'):St P F J w ⟨F.pl,ro',F.gh⟩ (J.put id o') w':=by
 have a:(F:Env).le ⟨F.pl,ro',F.gh⟩:=⟨λ_ _ h=>h,k.le,λ_ h=>h⟩
 have get:∀i u,(J.put id o').get i=some u->(i=id/\u=o')\/(i≠id/\J.get i=some u):=by
  intro i u hi;rw[aC.get_put]at hi;split at hi
  ·next e=>cases hi;exact .inl ⟨e,rfl⟩
  ·next e=>exact .inr ⟨e,hi⟩
 have own:∀i u,(J.put id o').get i=some u->u.own=true->∃l,J.get i=some l/\l.own=true:=by
  intro i u hi N;rcases get i u hi with⟨rfl,rfl⟩|⟨_,h1⟩
  ·exact⟨o,g,n⟩
  ·exact⟨u,h1,N⟩
 have r:∀i u,(J.put id o').get i=some u->∃l,J.get i=some l:=by
  intro i u hi;rcases get i u hi with⟨rfl,rfl⟩|⟨_,h1⟩
  ·exact⟨o,g⟩
  ·exact⟨u,h1⟩
 refine⟨a,⟨h.oO,h.dom,λi u hi=>?_,h.kZ,λi u H O p Q s t d R S T=>?_,k.at',λi u p s t d=>?_,λp x=>(h.tabs p x).mono a⟩,k.kept.size,λbl y z=>?_,λi u p h1 m U V=>?_,k.kept.os,k.kept.tape,k.kept.output,rfl,dP _,λ_ h=>.inl h,λb y=>?_⟩
 ·rcases get i u hi with⟨rfl,rfl⟩|⟨A,h1⟩
  ·exact .inl ⟨q,j,M⟩
  ·refine((h.live i u h1).heap λp x c=>k.kept.keep _ c.lt ?_).mono a
   intro e;exact h.sep id o i u q p g n h1 (λe=>A e.symm) j x e.symm
 ·obtain⟨v,D,E⟩:=own i u s t;obtain⟨W,G⟩:=r H O d;exact h.sep i v H W p Q D E G R S T
 ·rcases get i u s with⟨rfl,rfl⟩|⟨_,h1⟩
  ·have:(F:Env) i=some p:=d;rw[j]at this;cases this;exact k.off
  ·have c:=h.at h1 (show F i=some p from d);cases f:ro' p.bl with
   |none=>exact f
   |some X=>
    rcases k.new p.bl (by rw[f];simp)with m|m
    ·exact absurd (h.ng i u p h1 t d) m
    ·have:=c.lt;omega
 ·exact k.kept.keep bl y λe=>z id o q g n L j e.symm
 ·obtain⟨v,D,E⟩:=own i u h1 m;exact .inr ⟨i,v,p,D,E,U,V,rfl⟩
 ·rcases k.new b y with h1|h1
  ·exact .inl h1
  ·exact .inr (.inl h1)
end
end
open Go.Sort Go.Proofs
noncomputable section
variable{P:Program}
def Ny:∀a b:Q0,Op.bytesLess a b=decide (a<b)
 |_,[]=>by simp[Op.bytesLess]
 |[],_::_=>by simp[Op.bytesLess]
 |a::x,b::y=>by rw[Op.bytesLess,Ny x y,zx];simp[aeJ]
def axu{α:Type}(xs:List α)(d:α):(List.range xs.length).map (λi=>xs.getD i d)=xs:=by
 apply Jf;intro k;rw[jy];by_cases h:k<xs.length
 ·rw[aeQ h,bZ h];simp[List.getD,bZ h]
 ·rw[xA (by simp;omega),xA ah];rfl
structure aGc(P:Program)(fS g tS:Nat):Prop where
 big:∀(enc:Nat->List Value)(lt:Nat->Nat->Bool)(lb:QR)(blk off c:Nat)(d:Array Nat)(w:World),(∀x,(enc x).length=3)->(∀x,∀v∈enc x,v.oneCell'=true)->SWO lt->2<=d.size->d.size<4611686018427387904->
  LessReadsK P g lb enc 3 lt blk off d.size w->HoldsK enc 3 w blk off d->blk<w.heap.size->
  Calls P fS #[.iface tS (.slice (some ⟨blk,off,none⟩) d.size c),.func (.func g) #[] lb] w λe w'=>e=.returned (.tuple #[])/\∃n os,w'=grow (putRowK enc 3 (Sort.ahead w n) blk off (pdq lt d 0 d.size (Lib.bitLen d.size) true true)) os
 tiny:∀(p:XN)(n c:Nat)(lb:QR)(w:World),n<=1->Calls P fS #[.iface tS (.slice p n c),.func (.func g) #[] lb] w λe w'=>e=.returned (.tuple #[])/\∃os,w'=grow w os
 less:∀(blk off c Bs size:Nat)(W:World)(G:Nat->ByteArray),W.cell? ⟨Bs,0,none⟩=some (.slice (some ⟨blk,off,none⟩) size c)->(∀t,t<size->W.cell? ⟨blk,off+t*3+2,none⟩=some (.string (G t)))->
  ∀i j:Nat,i<size->j<size->Calls P g #[.int .i64 i,.int .i64 j,.pointer (some ⟨Bs,0,none⟩)] W λe w'=>e=.returned (.bool (Op.bytesLess (G i).toList (G j).toList))/\∃q,w'=W.drewN q
 enters:∀args w,(callFunc fS args).run P w=.ok (.enter fS args) w
section
variable[iI]
end
def St.als[aJ]{F:Env}{J:aC}{w:World}(h:SR P F J w){id:Nat}{o o':bP}(m:J.get id=some o)(q:o.own=true)(r:o'.own=true)(s:Live P F w id o'):St P F J w F (J.put id o') w:=by
 have get:∀i u,(J.put id o').get i=some u->(i=id/\u=o')\/(i≠id/\J.get i=some u):=by
  intro i u hi;rw[aC.get_put]at hi;split at hi
  ·next e=>cases hi;exact .inl ⟨e,rfl⟩
  ·next e=>exact .inr ⟨e,hi⟩
 have own:∀i u,(J.put id o').get i=some u->u.own=true->∃d,J.get i=some d/\d.own=true:=by
  intro i u hi t;rcases get i u hi with⟨rfl,rfl⟩|⟨_,a⟩
  ·exact⟨o,m,q⟩
  ·exact⟨u,a,t⟩
 have f:∀i u,(J.put id o').get i=some u->∃d,J.get i=some d:=by
  intro i u hi;rcases get i u hi with⟨rfl,rfl⟩|⟨_,a⟩
  ·exact⟨o,m⟩
  ·exact⟨u,a⟩
 refine⟨Env.le.refl _,⟨h.oO,h.dom,λi u hi=>?_,h.kZ,λi u n x p y g j k z A D=>?_,h.jF,λi u p g j k=>?_,h.tabs⟩,dP _,λ_ _ _=>rfl,λi u p a E G H=>?_,rfl,rfl,rfl,rfl,dP _,λ_ h=>.inl h,λ_ h=>.inl h⟩
 ·rcases get i u hi with⟨rfl,rfl⟩|⟨_,a⟩
  ·exact s
  ·exact h.live i u a
 ·obtain⟨v,b,c⟩:=own i u g j;obtain⟨I,l⟩:=f n x k;exact h.sep i v n I p y b c l z A D
 ·obtain⟨v,b,c⟩:=own i u g j;exact h.ng i v p b c k
 ·obtain⟨v,b,c⟩:=own i u a E;exact .inr ⟨i,v,p,b,c,G,H,rfl⟩
def aU.ones{ro:Qf}:∀{l:Q1}{vs:Q6},aU ro l vs->l.all GV.scalar=true->∀v∈vs,v.oneCell'=true
 |[],vs,h,_,v,b=>by simp only[aU]at h;subst h;simp at b
 |a::l,vs,h,c,v,b=>by
  simp only[aU]at h;obtain⟨x,xs,rfl,h1,d⟩:=h;simp only[uG,aO]at c;rcases bI.1 b with rfl|b
  ·letI:aJ:=Tg [] [] 0
   rw[XE];exact GR.sW h1 c.1
  ·exact aU.ones d c.2 v b
end
open Go.Sort Go.Proofs Go.RowKit
noncomputable section
variable{P:Program}
def LV:GV->Int
 |.g [.i .u64 t,_,_,_,_]=>t
 |_=>0
def isTagged:GV->Bool
 |.g [.i .u64 _,_,_,_,_]=>true
 |_=>false
def Ad(xs:Q1)(i:Nat):Int:=LV (xs.getD i (.b false))
def JM(a b:Int):Int:=if a<b then -1 else if b<a then 1 else 0
def Dv(xs:Q1)(i j:Nat):Int:=JM (Ad xs i) (Ad xs j)
def lH(xs:Q1):Array Nat:=pdq (ltOf (Dv xs)) (Array.range xs.length) 0 (Array.range xs.length).size (Lib.bitLen (Array.range xs.length).size) true true
def yh(xs:Q1):Q1:=(lH xs).toList.map λi=>xs.getD i (.b false)
def TJ:Q1->Option Q1
 |[.l xs]=>if xs.length<=281474976710656/\xs.all isTagged=true then some [.l (yh xs)]else none
 |_=>none
def Xp(xs:Q1)(i j:Nat):ltOf (Dv xs) i j=decide (Ad xs i<Ad xs j):=by
 unfold ltOf Dv JM;rw[zx];simp only[decide_eq_true_eq];split
 ·omega
 ·split<;>omega
def adP(xs:Q1):SWO (ltOf (Dv xs)) where
 irrefl x:=by rw[Xp];simp
 trans x y z h1 h2:=by rw[Xp]at *;simp only[decide_eq_true_eq]at *;omega
 ntrans x y z h1 h2:=by rw[Xp]at *;simp only[decide_eq_false_iff_not]at *;omega
def abu(xs:Q1):(lH xs).size=xs.length/\(lH xs).toList.Perm (List.range xs.length):=by
 obtain⟨c,_,d⟩:=(pdq_sorts (ltOf (Dv xs)) (adP xs) (Array.range xs.length) 0 (Array.range xs.length).size (Lib.bitLen (Array.range xs.length).size) true true (vG _) (dP _) (Or.inl rfl)).1;have a:(lH xs).size=xs.length:=by unfold lH;rw[c];simp
 refine⟨a,?_⟩;have e:(lH xs).extract 0 (Array.range xs.length).size=lH xs:=by have:=Array.extract_size (xs:=lH xs);rw[a]at this;simpa using this
 have f:(Array.range xs.length).extract 0 (Array.range xs.length).size=Array.range xs.length:=Array.extract_size;have b:((lH xs).extract 0 (Array.range xs.length).size).toList.Perm ((Array.range xs.length).extract 0 (Array.range xs.length).size).toList:=d;rw[e,f]at b;simpa using b
def adH(xs:Q1):(yh xs).Perm xs:=by have:=(abu xs).2.map (λi=>xs.getD i (.b false));rwa [axu]at this
def Yr(xs:Q1):(yh xs).length=xs.length:=(adH xs).length_eq
def aD0(xs:Q1):∀i j:Nat,∀a b,i<j->(yh xs)[i]? =some a->(yh xs)[j]? =some b->LV a<=LV b:=by
 intro i j a b d e f;unfold yh at e f;have m:=(pdq_sorts (ltOf (Dv xs)) (adP xs) (Array.range xs.length) 0 (Array.range xs.length).size (Lib.bitLen (Array.range xs.length).size) true true (vG _) (dP _) (Or.inl rfl)).2;have g:=(abu xs).1;rw[jy]at e f;obtain⟨x,n,rfl⟩:=bJ.1 e;obtain⟨y,k,rfl⟩:=bJ.1 f;have c:j<(lH xs).size:=by have:=(gu.1 k).1;simpa using this
 have h:=m i j (vG _) d (by simpa[g]using c);have o:(lH xs)[i]! =x:=by
  have:=(gu.1 n)
  rw[getElem!_pos _ i ah];simpa using this.2
 have p:(lH xs)[j]! =y:=by
  have:=(gu.1 k)
  rw[getElem!_pos _ j c];simpa using this.2
 have l:ltOf (Dv xs) (lH xs)[j]! (lH xs)[i]! =false:=h;rw[o,p,Xp,decide_eq_false_iff_not]at l;unfold Ad at l;omega
structure ae9(P:Program)(fS g:Nat):Prop where
 big:∀(enc:Nat->List Value)(cf:Nat->Nat->Int)(blk off c:Nat)(d:Array Nat)(w:World),(∀x,(enc x).length=5)->(∀x,∀v∈enc x,v.oneCell'=true)->SWO (ltOf cf)->CmpLays P g #[] enc 5 cf blk off d.size w->HoldsK enc 5 w blk off d->blk<w.heap.size->d.size<4611686018427387904->
  Calls P fS #[.slice (some ⟨blk,off,none⟩) d.size c,.func (.func g) #[] #[]] w λe w'=>e=.returned (.tuple #[])/\∃n os,w'=sortWorldK enc 5 w blk off n (pdq (ltOf cf) d 0 d.size (Lib.bitLen d.size) true true) os
 none:∀(p:XN)(c:Nat)(w:World),Calls P fS #[.slice p 0 c,.func (.func g) #[] #[]] w λe w'=>e=.returned (.tuple #[])/\w'=w
 cmp:∀(a b:Int)(a1 a2 a3 a4 b1 b2 b3 b4:Value)(W:World),(∀v∈[a1,a2,a3,a4,b1,b2,b3,b4],v.oneCell'=true)->
  Calls P g #[.agg #[.int .u64 a,a1,a2,a3,a4],.agg #[.int .u64 b,b1,b2,b3,b4]] W λe w'=>e=.returned (.int .i64 (JM a b))/\∃q os',w'=grow (W.drewN q) os'
 enters:∀args w,(callFunc fS args).run P w=.ok (.enter fS args) w
section
variable[iI]
def acv(k g:Nat):fO:=λargs J=>match args with
 |[.sv id n,.fn a [] []]=>match J.get id with
  |some (.vec b c f)=>
   if Nat.beq a g&&Nat.beq b n&&Nat.ble J.lock id then
    match gI (.call k [n] 0)with
    |some m=>match gI (.same n m)with
     |some d=>some (.fG [],J.put id (.vec d c f))
     |none=>none
    |none=>none
   else none
  |_=>none
 |_=>none
end
def aET{ro:Qf}{x:GV}{y:Value}(e:isTagged x=true)(h:GR ro x y):∃a b c d,y=.agg #[.int .u64 (LV x),a,b,c,d]:=by
 unfold isTagged at e;split at e
 ·next t f g2 g3 g=>
  simp only[GR,aU]at h;obtain⟨i,rfl,j,k,rfl,rfl,a,l,rfl,_,b,m,rfl,_,c,n,rfl,_,d,o,rfl,_,rfl⟩:=h;exact⟨a,b,c,d,rfl⟩
 ·cases e
def ayK{ro:Qf}{x:GV}{y:Value}(a:isTagged x=true)(h:GR ro x y)(b:x.cells.all GV.scalar=true):∀v∈y.cells.toList,v.oneCell'=true:=by
 unfold isTagged at a;split at a
 ·simp only[GR]at h;obtain⟨c,rfl,h⟩:=h;exact aU.ones h b
 ·cases a
def af6{b:Q6}{sz:Nat}(h0:0<sz)(h:∀y∈b,y.cells.size=sz){j:Nat}(e:j<b.length*sz):(eP b)[j]? =some ((b.getD (j/sz) undef).cells.toList.getD (j%sz) undef):=by
 letI:aJ:=Tg [] [] 0
 have c:j/sz<b.length:=(Nat.div_lt_iff_lt_mul h0).2 e;have a:j%sz<sz:=Nat.mod_lt _ h0;have d:=bZ c;have:=af5 h d (j%sz) a;rw[show j/sz*sz+j%sz=j by rw[Jk];exact Nat.div_add_mod j sz]at this;rw[this];have f:=h _ (iT c);rw[Ep ah];simp[List.getD,d,f,a]
def aDY{T:aJ}{fS g k:Nat}(Fx:ae9 P fS g)(hI:∀gs aa,T.I k gs=some aa->TJ gs=some aa):@fJ T P fS (@acv T.toiI k g):=by
 letI:=T
 intro args J r J' E F w vs hS G;unfold acv at E;split at E;rotate_left
 ·cases E
 next al n g'=>
 split at E;rotate_left
 ·cases E
 next n0 et f D=>
 split at E;rotate_left
 ·cases E
 next U=>
 simp only[aO]at U;obtain⟨⟨c2,c3⟩,c6⟩:=U;have c2:=(bV c2).symm;have c3:=(bV c3).symm;have c6:=wB c6;subst c2;subst c3;split at E;rotate_left
 ·cases E
 next m0 aD=>
 split at E;rotate_left
 ·cases E
 next m hm=>
 cases E;obtain⟨x,be,rfl,hx,aE⟩:=G;obtain⟨y,bh,rfl,V,am⟩:=aE;simp only[aG]at am;subst am;simp only[VR,aG]at V;obtain⟨us,vs,rfl,rfl,rfl⟩:=V;simp only[VR]at hx;obtain⟨l,ab,hx⟩:=hx;obtain⟨g0,k1,k2⟩:=iG aD;simp only[Nd.den,valsOf,ab]at k2;split at k2;rotate_left
 ·cases k2
 next aa an=>
 have N:=hI _ _ an;simp only[TJ]at N;split at N;rotate_left
 ·cases N
 next aL=>
 cases N;simp only[l9,bF]at k2;subst k2;obtain⟨bd,W⟩:=aL;obtain⟨gm,m1,m2⟩:=iG hm;have aM:aJ.val m0=some (.l (yh l)):=k1;simp only[Nd.den,ab,aM]at m2;rw[au (Yr l)]at m2;simp only[bF]at m2;subst m2;have fin:∀{M:Env}{J2:aC}{w':World},St P F J w M J2 w'->∃M ,St P F J w M J2 w'/\VR M (.fG []) (.tuple #[]):=λh=>⟨_,h,by simp only[VR];exact⟨[],rfl,by simp[aG]⟩⟩
 rcases hx with⟨q,hq,bi,rfl⟩|⟨aR,ao,rfl⟩
 rotate_left
 ·
   subst ao;refine .inr ⟨Fx.enters _ w,Calls.mono' (Fx.none none 0 w) ?_⟩;rintro e w' ⟨rfl,hw⟩
   rw[hw];have a0:yh []=[]:=kK (Yr []);rw[a0]at m1;obtain⟨M,f1,f2⟩:=fin (St.als (o':=.vec m et f) hS D rfl rfl (.inr ⟨aR,m,et,f,rfl,m1⟩));exact⟨_,rfl,M,f1,f2⟩
 have a5:=hS.at D hq;obtain⟨bj,cs,NT,Oc,s,o1,o2,o3,o4,o5,o6,O,o8,o9⟩:=a5;rw[ab]at o1;cases o1;have bk:s.length=l.length:=o3.length.symm;by_cases h2:l.length=0
 ·have a6:l=[]:=kK h2;have a7:yh l=l:=by rw[a6];exact kK (Yr [])
  rw[h2];refine .inr ⟨Fx.enters _ w,Calls.mono' (Fx.none _ _ w) ?_⟩;rintro e w' ⟨rfl,hw⟩
  rw[hw];obtain⟨M,f1,f2⟩:=fin (St.als (o':=.vec m et f) hS D rfl rfl (.inl ⟨q,hq,l,cs,NT,Oc,s,by rw[m1,a7],o2,o3,o4,o5,o6,O,o8,o9⟩));exact⟨_,rfl,M,f1,f2⟩
 have X:∀i,i<s.length->∃a b c d,s.getD i undef=.agg #[.int .u64 (Ad l i),a,b,c,d]:=by
  intro i hi;have z:l[i]? =some (l[i]'(by omega)):=bZ _;obtain⟨y,H,I⟩:=o3.at z;have Q:Ad l i=LV (l[i]'(by omega)):=by unfold Ad;simp[List.getD,z]
  obtain⟨a,b,c,d,e⟩:=aET (List.all_eq_true.1 W _ (iT ah)) I;exact⟨a,b,c,d,by simp only[List.getD,H,uK,e,Q]⟩
 have R:q.es=5:=by
  obtain⟨a,b,c,d,e⟩:=X 0 ah;have h0:s.getD 0 undef∈s:=by simp only[List.getD,bZ (ah:0<s.length),uK];exact iT _
  have:=o4 _ h0;rw[e]at this;exact this.symm
 have ap:∀y∈s,y.cells.size=5:=λy V=>by rw[o4 y V,R]
 let QT:Value:=.agg #[.int .u64 0,.bool false,.bool false,.bool false,.bool false]
 let p:Nat->List Value:=λi=>(s.getD i QT).cells.toList
 have ac:∀i,i<s.length->p i=(s.getD i undef).cells.toList:=by
  intro i hi;show(s.getD i QT).cells.toList=_
  simp[List.getD,bZ hi]
 have aq:∀i,¬i<s.length->p i=[.int .u64 0,.bool false,.bool false,.bool false,.bool false]:=by
  intro i hi;show(s.getD i QT).cells.toList=_
  simp[List.getD,xA (ah:s.length<=i)];rfl
 have ad:∀i,∃a b c d,p i=[.int .u64 (Ad l i),a,b,c,d]:=by
  intro i;by_cases hi:i<s.length
  ·obtain⟨a,b,c,d,e⟩:=X i hi;exact⟨a,b,c,d,by rw[ac i hi,e];rfl⟩
  ·refine⟨.bool false,.bool false,.bool false,.bool false,?_⟩;rw[aq i hi];have:Ad l i=0:=by unfold Ad;simp[List.getD,xA (ah:l.length<=i),LV]
   rw[this]
 have ae:∀i,(p i).length=5:=by intro i;obtain⟨a,b,c,d,e⟩:=ad i;rw[e];rfl
 have L:∀i,∀v∈p i,v.oneCell'=true:=by
  intro i v G;by_cases hi:i<s.length
  ·rw[ac i hi]at G;have z:l[i]? =some (l[i]'(by omega)):=bZ _;obtain⟨y,H,I⟩:=o3.at z;have:s.getD i undef=y:=by simp[List.getD,H]
   rw[this]at G;have af:=o8 _ (iT (ah:i<l.length));exact ayK (List.all_eq_true.1 W _ (iT ah)) I af v G
  ·rw[aq i hi]at G;simp only[bI,Jh,or_false]at G;rcases G with rfl|rfl|rfl|rfl|rfl<;>rfl
 have a8:∀i,i<l.length->(Array.range l.length)[i]! =i:=by intro i hi;rw[getElem!_pos _ i (by simpa using hi)];simp
 have hH:HoldsK p 5 w q.bl q.ba (Array.range l.length):=by
  intro j hj;rw[size_flatK,aeo]at hj;rw[get_flatK _ _ _ _ (by rw[aeo];exact hj),a8 _ ah,ac _ ah];have h1:=o5 j _ (af6 ah ap ah);refine⟨?_,?_⟩
  ·simp only[World.cell?,o2];rw[aj aA,h1];have:((s.getD (j/5) undef).cells.toList).length=5:=by
    have h0:s.getD (j/5) undef∈s:=by simp only[List.getD,bZ (ah:j/5<s.length),uK];exact iT _
    simpa using ap _ h0
   rw[getElem!_pos _ (j%5) ah];show some (((s.getD (j/5) undef).cells.toList)[j%5]?.getD undef)=some (((s.getD (j/5) undef).cells.toList)[j%5]'_)
   rw[bZ (ah:j%5<((s.getD (j/5) undef).cells.toList).length)];rfl
  ·have ar:j<q.sz:=by rw[R]at o6;omega
   have:=O.free rfl j ar;simp only[World.frozen?,o2];simpa using λh=>ah
 have av:Array.size (Array.range l.length)=l.length:=aeo;have Y:q.bl<w.heap.size:=xP o2;have aw:CmpLays P g #[] p 5 (Dv l) q.bl q.ba (Array.range l.length).size w:=by
  intro mm os dk bm i j;obtain⟨a1,a2,a3,a4,e1⟩:=ad i;obtain⟨b1,b2,b3,b4,e2⟩:=ad j;have h1:=Fx.cmp (Ad l i) (Ad l j) a1 a2 a3 a4 b1 b2 b3 b4 (sortWorldK p 5 w q.bl q.ba mm dk os) (by
   intro v G;simp only[bI,Jh,or_false]at G;have i1:=L i;have i2:=L j;rw[e1]at i1;rw[e2]at i2;rcases G with rfl|rfl|rfl|rfl|rfl|rfl|rfl|rfl
   ·exact i1 _ aA
   ·exact i1 _ aA
   ·exact i1 _ aA
   ·exact i1 _ aA
   ·exact i2 _ aA
   ·exact i2 _ aA
   ·exact i2 _ aA
   ·exact i2 _ aA)
  rw[e1,e2];exact h1
 have hc:=Fx.big p (Dv l) q.bl q.ba (q.sz/q.es) (Array.range l.length) w ae L (adP l) aw hH Y ah;rw[av]at hc;refine .inr ⟨Fx.enters _ w,Calls.mono' hc ?_⟩;rintro e w' ⟨rfl,nn,os,rfl⟩
 have ax:pdq (ltOf (Dv l)) (Array.range l.length) 0 l.length (Lib.bitLen l.length) true true=lH l:=by unfold lH;rw[av]
 rw[ax];obtain⟨p1,p2⟩:=abu l;have ay:∀i∈(lH l).toList,i<l.length:=λi hi=>Bv.1 (p2.mem_iff.1 hi);unfold sortWorldK;have ag:(grow (putRowK p 5 (Sort.ahead w nn) q.bl q.ba (lH l)) os).heap[q.bl]? =some (.cells (Go.Sort.putCells id q.ba (flatK p 5 (lH l)) cs) NT Oc):=by
  show((w.heap.modify q.bl (onCells (Go.Sort.putCells id q.ba (flatK p 5 (lH l)))))++os)[q.bl]? =_
  rw[Y9 (by simpa using Y),MC,au rfl,o2];rfl
 have A:∀Z,Z<w.heap.size->Z≠q.bl->(grow (putRowK p 5 (Sort.ahead w nn) q.bl q.ba (lH l)) os).heap[Z]? =w.heap[Z]?:=by
  intro Z h1 h2;show((w.heap.modify q.bl (onCells (Go.Sort.putCells id q.ba (flatK p 5 (lH l)))))++os)[Z]? =_
  rw[Y9 (by simpa using h1),MC,aj (λe=>h2 e.symm)]
 let t:Q6:=(lH l).toList.map λi=>s.getD i QT
 have ai:∀y∈t,y.cells.size=5:=by intro y V;obtain⟨i,hi,rfl⟩:=rZ.1 V;have:=ae i;simpa[p]using this
 have S:Hq (Go.Sort.putCells id q.ba (flatK p 5 (lH l)) cs) q.ba (eP t):=by
  intro u v ak;have bn:t.length=l.length:=by simp[t,p1]
  have a9:u<t.length*5:=by have:=(gu.1 ak).1;rwa [JL ai]at this
  rw[af6 ah ai a9]at ak;cases ak;have ar:u<q.sz:=by rw[R]at o6;omega
  have ba:q.ba+u<cs.size:=by have:=O.fits;omega
  unfold Go.Sort.putCells;rw[Array.getElem?_mapIdx,Ep ba];simp only[iJ,size_flatK,p1];rw[au ⟨ah,ah⟩,Zp,get_flatK _ _ _ _ (by rw[p1];omega)];have Q:u/5<(lH l).size:=ah;have e1:t.getD (u/5) undef=s.getD (lH l)[u/5]! QT:=by simp only[t,List.getD,jy];rw[getElem!_pos _ (u/5) Q];simp[Q]
  rw[e1];have e2:=ae (lH l)[u/5]!;show some (id ((p (lH l)[u/5]!)[u%5]!))=some ((p (lH l)[u/5]!).getD (u%5) undef)
  rw[getElem!_pos _ (u%5) ah];simp only[List.getD,bZ (ah:u%5<(p (lH l)[u/5]!).length),uK,id]
 have bb:aU F.ro (yh l) t:=by unfold yh;refine aU.ofFn _ λi hi=>?_;have bc:=ay i hi;have z:l[i]? =some (l[i]'bc):=bZ _;obtain⟨y,H,I⟩:=o3.at z;simp only[List.getD,z,H,uK];exact I
 have af:∀x∈yh l,x.cells.all GV.scalar=true:=λx hx=>o8 x ((adH l).mem_iff.1 hx)
 have s2:=St.ayC (ro':=F.ro) (o':=.vec m et f) (w':=grow (putRowK p 5 (Sort.ahead w nn) q.bl q.ba (lH l)) os) hS D rfl rfl c6 hq
  ⟨⟨rfl,rfl,rfl,by simp[putRowK],λZ h1 h2=>A Z h1 h2⟩,λ_ _ h=>h,λb hb=>.inl hb,λb o hb=>by have az:=hS.jF b o hb;rw[A b (xP az) (λe=>by subst e;rw[hS.ng al _ q D rfl hq]at hb;cases hb)];exact az,hS.ng al _ q D rfl hq⟩
  ⟨yh l,_,NT,Oc,t,m1,ag,bb,λy V=>by rw[ai y V,R],S,by rw[Yr];exact o6,
   {fits:=by simpa[Go.Sort.putCells]using O.fits,le:=O.le,shut:=O.shut,cell:=λu a hk=>by simp at hk,free:=O.free,whole:=λh=>by obtain⟨a1,a2,a3⟩:=O.whole h;exact⟨a1,by simpa[Go.Sort.putCells]using a2,a3⟩,room:=O.room},af,o9⟩
 obtain⟨M,f1,f2⟩:=fin s2;exact⟨_,rfl,M,f1,f2⟩
