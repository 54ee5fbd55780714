/- A step that changes one block alone. -/
import Derived.Test.YtmkkknckcnpljaaGreatDoorAbsJ
import Derived.Shelf.SlSortFuncK.WholeK
import Derived.Shelf.GgSortFunc.Tiny
import Derived.Sort.LotA
import Derived.Shelf.SlSortCmp.WholeK
set_option linter.all false
namespace Go.aO
noncomputable section
variable{P:Program}
structure akD(bl:Nat)(ro ro':Qf)(w w':World):Prop where
 kept:QJ ⟨w,λb=>b=bl,λ_=>none⟩ w'
 le:∀b o,ro b=some o->ro' b=some o
 new:∀b,ro' b≠none->ro b≠none\/w.heap.size<=b
 at':∀b o,ro' b=some o->w'.heap[b]? =some o
 off:ro' bl=none
section
variable[aI]
def St.av7{H:Env}{J:aA}{w w':World}{ro':Qf}(h:SR P H J w){id:Nat}{o o':bC}{q:Place}(g:J.get id=some o)(n:o.own=true)(G:o'.own=true)(I:J.lock<=id)(j:H id=some q)
 (k:akD q.bl H.ro ro' w w') (L:OR P ⟨H.pl,ro',H.gh⟩ q w' o'):St P H J w ⟨H.pl,ro',H.gh⟩ (J.put id o') w':=by
 have a:(H:Env).le ⟨H.pl,ro',H.gh⟩:=⟨λ_ _ h=>h,k.le,λ_ h=>h⟩
 have get:∀i u,(J.put id o').get i=some u->(i=id/\u=o')\/(i≠id/\J.get i=some u):=by
  intro i u hi;rw[aA.get_put]at hi;split at hi
  ·next e=>cases hi;exact .inl ⟨e,rfl⟩
  ·next e=>exact .inr ⟨e,hi⟩
 have own:∀i u,(J.put id o').get i=some u->u.own=true->∃l,J.get i=some l/\l.own=true:=by
  intro i u hi M;rcases get i u hi with⟨rfl,rfl⟩|⟨_,h1⟩
  ·exact⟨o,g,n⟩
  ·exact⟨u,h1,M⟩
 have r:∀i u,(J.put id o').get i=some u->∃l,J.get i=some l:=by
  intro i u hi;rcases get i u hi with⟨rfl,rfl⟩|⟨_,h1⟩
  ·exact⟨o,g⟩
  ·exact⟨u,h1⟩
 refine⟨a,⟨h.nH,h.dom,λi u hi=>?_,h.jT,λi u F N p O s t d Q S T=>?_,k.at',λi u p s t d=>?_,λp x=>(h.tabs p x).mono a⟩,k.kept.size,λbl y z=>?_,λi u p h1 m U V=>?_,k.kept.os,k.kept.tape,k.kept.output,rfl,dY _,λ_ h=>.inl h,λb y=>?_⟩
 ·rcases get i u hi with⟨rfl,rfl⟩|⟨A,h1⟩
  ·exact .inl ⟨q,j,L⟩
  ·refine((h.live i u h1).heap λp x c=>k.kept.keep _ c.lt ?_).mono a
   intro e;exact h.sep id o i u q p g n h1 (λe=>A e.symm) j x e.symm
 ·obtain⟨v,B,D⟩:=own i u s t;obtain⟨W,E⟩:=r F N d;exact h.sep i v F W p O B D E Q S T
 ·rcases get i u s with⟨rfl,rfl⟩|⟨_,h1⟩
  ·have:(H:Env) i=some p:=d;rw[j]at this;cases this;exact k.off
  ·have c:=h.at h1 (show H i=some p from d);cases f:ro' p.bl with
   |none=>exact f
   |some X=>
    rcases k.new p.bl (by rw[f];simp)with m|m
    ·exact absurd (h.lS i u p h1 t d) m
    ·have:=c.lt;omega
 ·exact k.kept.keep bl y λe=>z id o q g n I j e.symm
 ·obtain⟨v,B,D⟩:=own i u h1 m;exact .inr ⟨i,v,p,B,D,U,V,rfl⟩
 ·rcases k.new b y with h1|h1
  ·exact .inl h1
  ·exact .inr (.inl h1)
end
end
open Go.Sort Go.Proofs
noncomputable section
variable{P:Program}
def Ic:∀a b:Q0,Op.bytesLess a b=decide (a<b)
 |_,[]=>by simp[Op.bytesLess]
 |[],_::_=>by simp[Op.bytesLess]
 |a::x,b::y=>by rw[Op.bytesLess,Ic x y,qN];simp[acy]
def ava{α:Type}(xs:List α)(d:α):(List.range xs.length).map (λi=>xs.getD i d)=xs:=by
 apply J4;intro k;rw[iw];by_cases h:k<xs.length
 ·rw[acF h,bP h];simp[List.getD,bP h]
 ·rw[sZ (by simp;omega),sZ (by omega)];rfl
structure aDr(P:Program)(fS g tS:Nat):Prop where
 big:∀(enc:Nat->List Value)(lt:Nat->Nat->Bool)(lb:QQ)(blk off c:Nat)(d:Array Nat)(w:World),(∀x,(enc x).length=3)->(∀x,∀v∈enc x,v.oneCell'=true)->SWO lt->2<=d.size->d.size<4611686018427387904->
  LessReadsK P g lb enc 3 lt blk off d.size w->HoldsK enc 3 w blk off d->blk<w.heap.size->
  Calls P fS #[.iface tS (.slice (some ⟨blk,off,none⟩) d.size c),.func (.func g) #[] lb] w λe w'=>e=.returned (.tuple #[])/\∃n os,w'=grow (putRowK enc 3 (Sort.ahead w n) blk off (pdq lt d 0 d.size (Lib.bitLen d.size) true true)) os
 tiny:∀(p:Option Addr)(n c:Nat)(lb:QQ)(w:World),n<=1->Calls P fS #[.iface tS (.slice p n c),.func (.func g) #[] lb] w λe w'=>e=.returned (.tuple #[])/\∃os,w'=grow w os
 less:∀(blk off c Bs size:Nat)(W:World)(G:Nat->ByteArray),W.cell? ⟨Bs,0,none⟩=some (.slice (some ⟨blk,off,none⟩) size c)->(∀t,t<size->W.cell? ⟨blk,off+t*3+2,none⟩=some (.string (G t)))->
  ∀i j:Nat,i<size->j<size->Calls P g #[.int .i64 i,.int .i64 j,.pointer (some ⟨Bs,0,none⟩)] W λe w'=>e=.returned (.bool (Op.bytesLess (G i).toList (G j).toList))/\∃q,w'=W.drewN q
 enters:∀args w,(callFunc fS args).run P w=.ok (.enter fS args) w
section
variable[gY]
end
def St.aiB[aI]{H:Env}{J:aA}{w:World}(h:SR P H J w){id:Nat}{o o':bC}(m:J.get id=some o)(q:o.own=true)(r:o'.own=true)(s:Live P H w id o'):St P H J w H (J.put id o') w:=by
 have get:∀i u,(J.put id o').get i=some u->(i=id/\u=o')\/(i≠id/\J.get i=some u):=by
  intro i u hi;rw[aA.get_put]at hi;split at hi
  ·next e=>cases hi;exact .inl ⟨e,rfl⟩
  ·next e=>exact .inr ⟨e,hi⟩
 have own:∀i u,(J.put id o').get i=some u->u.own=true->∃d,J.get i=some d/\d.own=true:=by
  intro i u hi t;rcases get i u hi with⟨rfl,rfl⟩|⟨_,a⟩
  ·exact⟨o,m,q⟩
  ·exact⟨u,a,t⟩
 have f:∀i u,(J.put id o').get i=some u->∃d,J.get i=some d:=by
  intro i u hi;rcases get i u hi with⟨rfl,rfl⟩|⟨_,a⟩
  ·exact⟨o,m⟩
  ·exact⟨u,a⟩
 refine⟨Env.le.refl _,⟨h.nH,h.dom,λi u hi=>?_,h.jT,λi u n x p y g j k z A B=>?_,h.ji,λi u p g j k=>?_,h.tabs⟩,dY _,λ_ _ _=>rfl,λi u p a D E F=>?_,rfl,rfl,rfl,rfl,dY _,λ_ h=>.inl h,λ_ h=>.inl h⟩
 ·rcases get i u hi with⟨rfl,rfl⟩|⟨_,a⟩
  ·exact s
  ·exact h.live i u a
 ·obtain⟨v,b,c⟩:=own i u g j;obtain⟨G,l⟩:=f n x k;exact h.sep i v n G p y b c l z A B
 ·obtain⟨v,b,c⟩:=own i u g j;exact h.lS i v p b c k
 ·obtain⟨v,b,c⟩:=own i u a D;exact .inr ⟨i,v,p,b,c,E,F,rfl⟩
def aP.ones{ro:Qf}:∀{l:Q1}{vs:Q6},aP ro l vs->l.all GV.scalar=true->∀v∈vs,v.oneCell'=true
 |[],vs,h,_,v,b=>by simp only[aP]at h;subst h;simp at b
 |a::l,vs,h,c,v,b=>by
  simp only[aP]at h;obtain⟨x,xs,rfl,h1,d⟩:=h;simp only[sW,aK]at c;rcases bD.1 b with rfl|b
  ·letI:aI:=Tg [] [] 0
   rw[U4];exact GR.pX h1 c.1
  ·exact aP.ones d c.2 v b
end
open Go.Sort Go.Proofs Go.RowKit
noncomputable section
variable{P:Program}
def JD:GV->Int
 |.g [.i .u64 t,_,_,_,_]=>t
 |_=>0
def isTagged:GV->Bool
 |.g [.i .u64 _,_,_,_,_]=>true
 |_=>false
def yu(xs:Q1)(i:Nat):Int:=JD (xs.getD i (.b false))
def Iy(a b:Int):Int:=if a<b then -1 else if b<a then 1 else 0
def Bd(xs:Q1)(i j:Nat):Int:=Iy (yu xs i) (yu xs j)
def jX(xs:Q1):Array Nat:=pdq (ltOf (Bd xs)) (Array.range xs.length) 0 (Array.range xs.length).size (Lib.bitLen (Array.range xs.length).size) true true
def vC(xs:Q1):Q1:=(jX xs).toList.map λi=>xs.getD i (.b false)
def Ql:Q1->Option Q1
 |[.l xs]=>if xs.length<=281474976710656/\xs.all isTagged=true then some [.l (vC xs)]else none
 |_=>none
def UN(xs:Q1)(i j:Nat):ltOf (Bd xs) i j=decide (yu xs i<yu xs j):=by
 unfold ltOf Bd Iy;rw[qN];simp only[decide_eq_true_eq];split
 ·omega
 ·split<;>omega
def abH(xs:Q1):SWO (ltOf (Bd xs)) where
 irrefl x:=by rw[UN];simp
 trans x y z h1 h2:=by rw[UN]at *;simp only[decide_eq_true_eq]at *;omega
 ntrans x y z h1 h2:=by rw[UN]at *;simp only[decide_eq_false_iff_not]at *;omega
def Zl(xs:Q1):(jX xs).size=xs.length/\(jX xs).toList.Perm (List.range xs.length):=by
 obtain⟨c,_,d⟩:=(pdq_sorts (ltOf (Bd xs)) (abH xs) (Array.range xs.length) 0 (Array.range xs.length).size (Lib.bitLen (Array.range xs.length).size) true true (vT _) (dY _) (Or.inl rfl)).1;have a:(jX xs).size=xs.length:=by unfold jX;rw[c];simp
 refine⟨a,?_⟩;have e:(jX xs).extract 0 (Array.range xs.length).size=jX xs:=by have:=Array.extract_size (xs:=jX xs);rw[a]at this;simpa using this
 have f:(Array.range xs.length).extract 0 (Array.range xs.length).size=Array.range xs.length:=Array.extract_size;have b:((jX xs).extract 0 (Array.range xs.length).size).toList.Perm ((Array.range xs.length).extract 0 (Array.range xs.length).size).toList:=d;rw[e,f]at b;simpa using b
def abz(xs:Q1):(vC xs).Perm xs:=by have:=(Zl xs).2.map (λi=>xs.getD i (.b false));rwa [ava]at this
def VI(xs:Q1):(vC xs).length=xs.length:=(abz xs).length_eq
def aBw(xs:Q1):∀i j:Nat,∀a b,i<j->(vC xs)[i]? =some a->(vC xs)[j]? =some b->JD a<=JD b:=by
 intro i j a b d e f;unfold vC at e f;have m:=(pdq_sorts (ltOf (Bd xs)) (abH xs) (Array.range xs.length) 0 (Array.range xs.length).size (Lib.bitLen (Array.range xs.length).size) true true (vT _) (dY _) (Or.inl rfl)).2;have g:=(Zl xs).1;rw[iw]at e f;obtain⟨x,n,rfl⟩:=bg.1 e;obtain⟨y,k,rfl⟩:=bg.1 f;have c:j<(jX xs).size:=by have:=(fB.1 k).1;simpa using this
 have h:=m i j (vT _) d (by simpa[g]using c);have o:(jX xs)[i]! =x:=by
  have:=(fB.1 n)
  rw[getElem!_pos _ i (by omega)];simpa using this.2
 have p:(jX xs)[j]! =y:=by
  have:=(fB.1 k)
  rw[getElem!_pos _ j c];simpa using this.2
 have l:ltOf (Bd xs) (jX xs)[j]! (jX xs)[i]! =false:=h;rw[o,p,UN,decide_eq_false_iff_not]at l;unfold yu at l;omega
structure acX(P:Program)(fS g:Nat):Prop where
 big:∀(enc:Nat->List Value)(cf:Nat->Nat->Int)(blk off c:Nat)(d:Array Nat)(w:World),(∀x,(enc x).length=5)->(∀x,∀v∈enc x,v.oneCell'=true)->SWO (ltOf cf)->CmpLays P g #[] enc 5 cf blk off d.size w->HoldsK enc 5 w blk off d->blk<w.heap.size->d.size<4611686018427387904->
  Calls P fS #[.slice (some ⟨blk,off,none⟩) d.size c,.func (.func g) #[] #[]] w λe w'=>e=.returned (.tuple #[])/\∃n os,w'=sortWorldK enc 5 w blk off n (pdq (ltOf cf) d 0 d.size (Lib.bitLen d.size) true true) os
 none:∀(p:Option Addr)(c:Nat)(w:World),Calls P fS #[.slice p 0 c,.func (.func g) #[] #[]] w λe w'=>e=.returned (.tuple #[])/\w'=w
 cmp:∀(a b:Int)(a1 a2 a3 a4 b1 b2 b3 b4:Value)(W:World),(∀v∈[a1,a2,a3,a4,b1,b2,b3,b4],v.oneCell'=true)->
  Calls P g #[.agg #[.int .u64 a,a1,a2,a3,a4],.agg #[.int .u64 b,b1,b2,b3,b4]] W λe w'=>e=.returned (.int .i64 (Iy a b))/\∃q os',w'=grow (W.drewN q) os'
 enters:∀args w,(callFunc fS args).run P w=.ok (.enter fS args) w
section
variable[gY]
def aar(k g:Nat):fC:=λargs J=>match args with
 |[.sv id n,.fn a [] []]=>match J.get id with
  |some (.vec b c f)=>
   if Nat.beq a g&&Nat.beq b n&&Nat.ble J.lock id then
    match fG (.call k [n] 0)with
    |some m=>match fG (.same n m)with
     |some d=>some (.eG [],J.put id (.vec d c f))
     |none=>none
    |none=>none
   else none
  |_=>none
 |_=>none
end
def aB6{ro:Qf}{x:GV}{y:Value}(e:isTagged x=true)(h:GR ro x y):∃a b c d,y=.agg #[.int .u64 (JD x),a,b,c,d]:=by
 unfold isTagged at e;split at e
 ·next t g1 g2 f g=>
  simp only[GR,aP]at h;obtain⟨i,rfl,j,k,rfl,rfl,a,l,rfl,_,b,m,rfl,_,c,n,rfl,_,d,o,rfl,_,rfl⟩:=h;exact⟨a,b,c,d,rfl⟩
 ·cases e
def awh{ro:Qf}{x:GV}{y:Value}(a:isTagged x=true)(h:GR ro x y)(b:x.cells.all GV.scalar=true):∀v∈y.cells.toList,v.oneCell'=true:=by
 unfold isTagged at a;split at a
 ·simp only[GR]at h;obtain⟨c,rfl,h⟩:=h;exact aP.ones h b
 ·cases a
def adZ{b:Q6}{sz:Nat}(h0:0<sz)(h:∀y∈b,y.cells.size=sz){j:Nat}(e:j<b.length*sz):(dS b)[j]? =some ((b.getD (j/sz) undef).cells.toList.getD (j%sz) undef):=by
 letI:aI:=Tg [] [] 0
 have c:j/sz<b.length:=(Nat.div_lt_iff_lt_mul h0).2 e;have a:j%sz<sz:=Nat.mod_lt _ h0;have d:=bP c;have:=adY h d (j%sz) a;rw[show j/sz*sz+j%sz=j by rw[CS];exact Nat.div_add_mod j sz]at this;rw[this];have f:=h _ (dW c);rw[CG (by omega)];simp[List.getD,d,f,a]
def aBu{T:aI}{fS g k:Nat}(F:acX P fS g)(hI:∀gs aa,T.I k gs=some aa->Ql gs=some aa):@eY T P fS (@aar T.togY k g):=by
 letI:=T
 intro args J r J' D H w vs hS E;unfold aar at D;split at D;rotate_left
 ·cases D
 next ai n g'=>
 split at D;rotate_left
 ·cases D
 next n0 et f B=>
 split at D;rotate_left
 ·cases D
 next V=>
 simp only[aK]at V;obtain⟨⟨c2,c3⟩,c6⟩:=V;have c2:=(bH c2).symm;have c3:=(bH c3).symm;have c6:=tq c6;subst c2;subst c3;split at D;rotate_left
 ·cases D
 next m0 az=>
 split at D;rotate_left
 ·cases D
 next m hm=>
 cases D;obtain⟨x,bd,rfl,hx,aD⟩:=E;obtain⟨y,be,rfl,W,ak⟩:=aD;simp only[aF]at ak;subst ak;simp only[VR,aF]at W;obtain⟨us,vs,rfl,rfl,rfl⟩:=W;simp only[VR]at hx;obtain⟨l,ab,hx⟩:=hx;obtain⟨g0,k1,k2⟩:=gQ az;simp only[Nd.den,valsOf,ab]at k2;split at k2;rotate_left
 ·cases k2
 next aa al=>
 have N:=hI _ _ al;simp only[Ql]at N;split at N;rotate_left
 ·cases N
 next aE=>
 cases N;simp only[kW,aZ]at k2;subst k2;obtain⟨bc,X⟩:=aE;obtain⟨gm,m1,m2⟩:=gQ hm;have aL:aI.val m0=some (.l (vC l)):=k1;simp only[Nd.den,ab,aL]at m2;rw[aj (VI l)]at m2;simp only[aZ]at m2;subst m2;have ac:∀{M:Env}{J2:aA}{w':World},St P H J w M J2 w'->∃M ,St P H J w M J2 w'/\VR M (.eG []) (.tuple #[]):=λh=>⟨_,h,by simp only[VR];exact⟨[],rfl,by simp[aF]⟩⟩
 rcases hx with⟨q,hq,bh,rfl⟩|⟨aM,am,rfl⟩
 rotate_left
 ·
   subst am;refine .inr ⟨F.enters _ w,Calls.mono' (F.none none 0 w) ?_⟩;rintro e w' ⟨rfl,hw⟩
   rw[hw];have aR:vC []=[]:=jl (VI []);rw[aR]at m1;obtain⟨M,f1,f2⟩:=ac (St.aiB (o':=.vec m et f) hS B rfl rfl (.inr ⟨aM,m,et,f,rfl,m1⟩));exact⟨_,rfl,M,f1,f2⟩
 have a0:=hS.at B hq;obtain⟨bi,cs,KT,Lj,s,o1,o2,o3,o4,o5,o6,O,o8,o9⟩:=a0;rw[ab]at o1;cases o1;have bj:s.length=l.length:=o3.length.symm;by_cases h2:l.length=0
 ·have a5:l=[]:=jl h2;have a6:vC l=l:=by rw[a5];exact jl (VI [])
  rw[h2];refine .inr ⟨F.enters _ w,Calls.mono' (F.none _ _ w) ?_⟩;rintro e w' ⟨rfl,hw⟩
  rw[hw];obtain⟨M,f1,f2⟩:=ac (St.aiB (o':=.vec m et f) hS B rfl rfl (.inl ⟨q,hq,l,cs,KT,Lj,s,by rw[m1,a6],o2,o3,o4,o5,o6,O,o8,o9⟩));exact⟨_,rfl,M,f1,f2⟩
 have Y:∀i,i<s.length->∃a b c d,s.getD i undef=.agg #[.int .u64 (yu l i),a,b,c,d]:=by
  intro i hi;have z:l[i]? =some (l[i]'(by omega)):=bP _;obtain⟨y,G,I⟩:=o3.at z;have Q:yu l i=JD (l[i]'(by omega)):=by unfold yu;simp[List.getD,z]
  obtain⟨a,b,c,d,e⟩:=aB6 (List.all_eq_true.1 X _ (dW (by omega))) I;exact⟨a,b,c,d,by simp only[List.getD,G,qP,e,Q]⟩
 have S:q.es=5:=by
  obtain⟨a,b,c,d,e⟩:=Y 0 (by omega);have h0:s.getD 0 undef∈s:=by simp only[List.getD,bP (show 0<s.length by omega),qP];exact dW _
  have:=o4 _ h0;rw[e]at this;exact this.symm
 have an:∀y∈s,y.cells.size=5:=λy W=>by rw[o4 y W,S]
 let OQ:Value:=.agg #[.int .u64 0,.bool false,.bool false,.bool false,.bool false]
 let p:Nat->List Value:=λi=>(s.getD i OQ).cells.toList
 have Y1:∀i,i<s.length->p i=(s.getD i undef).cells.toList:=by
  intro i hi;show(s.getD i OQ).cells.toList=_
  simp[List.getD,bP hi]
 have ao:∀i,¬i<s.length->p i=[.int .u64 0,.bool false,.bool false,.bool false,.bool false]:=by
  intro i hi;show(s.getD i OQ).cells.toList=_
  simp[List.getD,sZ (show s.length<=i by omega)];rfl
 have ad:∀i,∃a b c d,p i=[.int .u64 (yu l i),a,b,c,d]:=by
  intro i;by_cases hi:i<s.length
  ·obtain⟨a,b,c,d,e⟩:=Y i hi;exact⟨a,b,c,d,by rw[Y1 i hi,e];rfl⟩
  ·refine⟨.bool false,.bool false,.bool false,.bool false,?_⟩;rw[ao i hi];have:yu l i=0:=by unfold yu;simp[List.getD,sZ (show l.length<=i by omega),JD]
   rw[this]
 have Y0:∀i,(p i).length=5:=by intro i;obtain⟨a,b,c,d,e⟩:=ad i;rw[e];rfl
 have L:∀i,∀v∈p i,v.oneCell'=true:=by
  intro i v E;by_cases hi:i<s.length
  ·rw[Y1 i hi]at E;have z:l[i]? =some (l[i]'(by omega)):=bP _;obtain⟨y,G,I⟩:=o3.at z;have:s.getD i undef=y:=by simp[List.getD,G]
   rw[this]at E;have ae:=o8 _ (dW (show i<l.length by omega));exact awh (List.all_eq_true.1 X _ (dW (by omega))) I ae v E
  ·rw[ao i hi]at E;simp only[bD,Hf,or_false]at E;rcases E with rfl|rfl|rfl|rfl|rfl<;>rfl
 have a7:∀i,i<l.length->(Array.range l.length)[i]! =i:=by intro i hi;rw[getElem!_pos _ i (by simpa using hi)];simp
 have hH:HoldsK p 5 w q.bl q.ba (Array.range l.length):=by
  intro j hj;rw[size_flatK,acg]at hj;rw[get_flatK _ _ _ _ (by rw[acg];exact hj),a7 _ (by omega),Y1 _ (by omega)];have h1:=o5 j _ (adZ (by omega) an (by omega));refine⟨?_,?_⟩
  ·simp only[World.cell?,o2];rw[ah (by simp),h1];have:((s.getD (j/5) undef).cells.toList).length=5:=by
    have h0:s.getD (j/5) undef∈s:=by simp only[List.getD,bP (show j/5<s.length by omega),qP];exact dW _
    simpa using an _ h0
   rw[getElem!_pos _ (j%5) (by omega)];show some (((s.getD (j/5) undef).cells.toList)[j%5]?.getD undef)=some (((s.getD (j/5) undef).cells.toList)[j%5]'_)
   rw[bP (show j%5<((s.getD (j/5) undef).cells.toList).length by omega)];rfl
  ·have ap:j<q.sz:=by rw[S]at o6;omega
   have:=O.free rfl j ap;simp only[World.frozen?,o2];simpa using λh=>by omega
 have aq:Array.size (Array.range l.length)=l.length:=acg;have Z:q.bl<w.heap.size:=wM o2;have ar:CmpLays P g #[] p 5 (Bd l) q.bl q.ba (Array.range l.length).size w:=by
  intro mm os dk bk i j;obtain⟨a1,a2,a3,a4,e1⟩:=ad i;obtain⟨b1,b2,b3,b4,e2⟩:=ad j;have h1:=F.cmp (yu l i) (yu l j) a1 a2 a3 a4 b1 b2 b3 b4 (sortWorldK p 5 w q.bl q.ba mm dk os) (by
   intro v E;simp only[bD,Hf,or_false]at E;have i1:=L i;have i2:=L j;rw[e1]at i1;rw[e2]at i2;rcases E with rfl|rfl|rfl|rfl|rfl|rfl|rfl|rfl
   ·exact i1 _ (by simp)
   ·exact i1 _ (by simp)
   ·exact i1 _ (by simp)
   ·exact i1 _ (by simp)
   ·exact i2 _ (by simp)
   ·exact i2 _ (by simp)
   ·exact i2 _ (by simp)
   ·exact i2 _ (by simp))
  rw[e1,e2];exact h1
 have hc:=F.big p (Bd l) q.bl q.ba (q.sz/q.es) (Array.range l.length) w Y0 L (abH l) ar hH Z (by omega);rw[aq]at hc;refine .inr ⟨F.enters _ w,Calls.mono' hc ?_⟩;rintro e w' ⟨rfl,nn,os,rfl⟩
 have av:pdq (ltOf (Bd l)) (Array.range l.length) 0 l.length (Lib.bitLen l.length) true true=jX l:=by unfold jX;rw[aq]
 rw[av];obtain⟨p1,p2⟩:=Zl l;have aw:∀i∈(jX l).toList,i<l.length:=λi hi=>zl.1 (p2.mem_iff.1 hi);unfold sortWorldK;have af:(grow (putRowK p 5 (Sort.ahead w nn) q.bl q.ba (jX l)) os).heap[q.bl]? =some (.cells (Go.Sort.putCells id q.ba (flatK p 5 (jX l)) cs) KT Lj):=by
  show((w.heap.modify q.bl (onCells (Go.Sort.putCells id q.ba (flatK p 5 (jX l)))))++os)[q.bl]? =_
  rw[WC (by simpa using Z),JV,aj rfl,o2];rfl
 have A:∀bl,bl<w.heap.size->bl≠q.bl->(grow (putRowK p 5 (Sort.ahead w nn) q.bl q.ba (jX l)) os).heap[bl]? =w.heap[bl]?:=by
  intro bl h1 h2;show((w.heap.modify q.bl (onCells (Go.Sort.putCells id q.ba (flatK p 5 (jX l)))))++os)[bl]? =_
  rw[WC (by simpa using h1),JV,ah (λe=>h2 e.symm)]
 let t:Q6:=(jX l).toList.map λi=>s.getD i OQ
 have Zk:∀y∈t,y.cells.size=5:=by intro y W;obtain⟨i,hi,rfl⟩:=nR.1 W;have:=Y0 i;simpa[p]using this
 have U:EW (Go.Sort.putCells id q.ba (flatK p 5 (jX l)) cs) q.ba (dS t):=by
  intro u v ag;have bm:t.length=l.length:=by simp[t,p1]
  have a8:u<t.length*5:=by have:=(fB.1 ag).1;rwa [Iq Zk]at this
  rw[adZ (by omega) Zk a8]at ag;cases ag;have ap:u<q.sz:=by rw[S]at o6;omega
  have a9:q.ba+u<cs.size:=by have:=O.fits;omega
  unfold Go.Sort.putCells;rw[Array.getElem?_mapIdx,CG a9];simp only[gB,size_flatK,p1];rw[aj ⟨by omega,by omega⟩,Xb,get_flatK _ _ _ _ (by rw[p1];omega)];have Q:u/5<(jX l).size:=by omega
  have e1:t.getD (u/5) undef=s.getD (jX l)[u/5]! OQ:=by simp only[t,List.getD,iw];rw[getElem!_pos _ (u/5) Q];simp[Q]
  rw[e1];have e2:=Y0 (jX l)[u/5]!;show some (id ((p (jX l)[u/5]!)[u%5]!))=some ((p (jX l)[u/5]!).getD (u%5) undef)
  rw[getElem!_pos _ (u%5) (by omega)];simp only[List.getD,bP (show u%5<(p (jX l)[u/5]!).length by omega),qP,id]
 have ba:aP H.ro (vC l) t:=by unfold vC;refine aP.ofFn _ λi hi=>?_;have bb:=aw i hi;have z:l[i]? =some (l[i]'bb):=bP _;obtain⟨y,G,I⟩:=o3.at z;simp only[List.getD,z,G,qP];exact I
 have ae:∀x∈vC l,x.cells.all GV.scalar=true:=λx hx=>o8 x ((abz l).mem_iff.1 hx)
 have s2:=St.av7 (ro':=H.ro) (o':=.vec m et f) (w':=grow (putRowK p 5 (Sort.ahead w nn) q.bl q.ba (jX l)) os) hS B rfl rfl c6 hq
  ⟨⟨rfl,rfl,rfl,by simp[putRowK],λbl h1 h2=>A bl h1 h2⟩,λ_ _ h=>h,λb hb=>.inl hb,λb o hb=>by have ax:=hS.ji b o hb;rw[A b (wM ax) (λe=>by subst e;rw[hS.lS ai _ q B rfl hq]at hb;cases hb)];exact ax,hS.lS ai _ q B rfl hq⟩
  ⟨vC l,_,KT,Lj,t,m1,af,ba,λy W=>by rw[Zk y W,S],U,by rw[VI];exact o6,
   {fits:=by simpa[Go.Sort.putCells]using O.fits,le:=O.le,shut:=O.shut,cell:=λu a hk=>by simp at hk,free:=O.free,whole:=λh=>by obtain⟨a1,a2,a3⟩:=O.whole h;exact⟨a1,by simpa[Go.Sort.putCells]using a2,a3⟩,room:=O.room},ae,o9⟩
 obtain⟨M,f1,f2⟩:=ac s2;exact⟨_,rfl,M,f1,f2⟩
