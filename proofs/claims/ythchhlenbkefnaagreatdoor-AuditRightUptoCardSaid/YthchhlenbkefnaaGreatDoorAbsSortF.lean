/- A step that changes one block alone. -/
import Derived.Test.YthchhlenbkefnaaGreatDoorAbsJ
import Derived.Shelf.SlSortFuncK.WholeK
import Derived.Shelf.GgSortFunc.Tiny
import Derived.Sort.LotA
import Derived.Shelf.SlSortCmp.WholeK
set_option linter.all false
namespace Go.aN
noncomputable section
variable{P:Program}
structure amM(bl:Nat)(ro ro':Qf)(w w':World):Prop where
 kept:SQ ⟨w,λb=>b=bl,λ_=>none⟩ w'
 le:∀b o,ro b=some o->ro' b=some o
 new:∀b,ro' b≠none->ro b≠none\/w.heap.size<=b
 at':∀b o,ro' b=some o->w'.heap[b]? =some o
 off:ro' bl=none
section
variable[aH]
def St.ayj{F:Env}{J:aA}{w w':World}{ro':Qf}(h:SR P F J w){id:Nat}{o o':bI}{q:Place}(g:J.get id=some o)(n:o.own=true)(H:o'.own=true)(I:J.lock<=id)(j:F id=some q)
 (k:amM q.bl F.ro ro' w w') (L:OR P ⟨F.pl,ro',F.gh⟩ q w' o'):St P F J w ⟨F.pl,ro',F.gh⟩ (J.put id o') w':=by
 have a:(F:Env).le ⟨F.pl,ro',F.gh⟩:=⟨λ_ _ h=>h,k.le,λ_ h=>h⟩
 have get:∀i u,(J.put id o').get i=some u->(i=id/\u=o')\/(i≠id/\J.get i=some u):=by
  intro i u hi;rw[aA.get_put]at hi;split at hi
  ·next e=>cases hi;exact .inl ⟨e,rfl⟩
  ·next e=>exact .inr ⟨e,hi⟩
 have own:∀i u,(J.put id o').get i=some u->u.own=true->∃l,J.get i=some l/\l.own=true:=by
  intro i u hi M;rcases get i u hi with⟨rfl,rfl⟩|⟨_,h1⟩
  ·exact⟨o,g,n⟩
  ·exact⟨u,h1,M⟩
 have r:∀i u,(J.put id o').get i=some u->∃l,J.get i=some l:=by
  intro i u hi;rcases get i u hi with⟨rfl,rfl⟩|⟨_,h1⟩
  ·exact⟨o,g⟩
  ·exact⟨u,h1⟩
 refine⟨a,⟨h.nS,h.dom,λi u hi=>?_,h.kK,λi u G N p O s t d Q R S=>?_,k.at',λi u p s t d=>?_,λp x=>(h.tabs p x).mono a⟩,k.kept.size,λbl y z=>?_,λi u p h1 m T V=>?_,k.kept.os,k.kept.tape,k.kept.output,rfl,dD _,λ_ h=>.inl h,λb y=>?_⟩
 ·rcases get i u hi with⟨rfl,rfl⟩|⟨A,h1⟩
  ·exact .inl ⟨q,j,L⟩
  ·refine((h.live i u h1).heap λp x c=>k.kept.keep _ c.lt ?_).mono a
   intro e;exact h.sep id o i u q p g n h1 (λe=>A e.symm) j x e.symm
 ·obtain⟨v,B,D⟩:=own i u s t;obtain⟨W,E⟩:=r G N d;exact h.sep i v G W p O B D E Q R S
 ·rcases get i u s with⟨rfl,rfl⟩|⟨_,h1⟩
  ·have:(F:Env) i=some p:=d;rw[j]at this;cases this;exact k.off
  ·have c:=h.at h1 (show F i=some p from d);cases f:ro' p.bl with
   |none=>exact f
   |some X=>
    rcases k.new p.bl (by rw[f];simp)with m|m
    ·exact absurd (h.lV i u p h1 t d) m
    ·have:=c.lt;omega
 ·exact k.kept.keep bl y λe=>z id o q g n I j e.symm
 ·obtain⟨v,B,D⟩:=own i u h1 m;exact .inr ⟨i,v,p,B,D,T,V,rfl⟩
 ·rcases k.new b y with h1|h1
  ·exact .inl h1
  ·exact .inr (.inl h1)
end
end
open Go.Sort Go.Proofs
noncomputable section
variable{P:Program}
def MB:∀a b:Q0,Op.bytesLess a b=decide (a<b)
 |_,[]=>by simp[Op.bytesLess]
 |[],_::_=>by simp[Op.bytesLess]
 |a::x,b::y=>by rw[Op.bytesLess,MB x y,yI];simp[ad7]
def axd{α:Type}(xs:List α)(d:α):(List.range xs.length).map (λi=>xs.getD i d)=xs:=by
 apply Ip;intro k;rw[iY];by_cases h:k<xs.length
 ·rw[aed h,bT h];simp[List.getD,bT h]
 ·rw[wG (by simp;omega),wG (by omega)];rfl
structure aGf(P:Program)(fS g tS:Nat):Prop where
 big:∀(enc:Nat->List Value)(lt:Nat->Nat->Bool)(lb:QQ)(blk off c:Nat)(d:Array Nat)(w:World),(∀x,(enc x).length=3)->(∀x,∀v∈enc x,v.oneCell'=true)->SWO lt->2<=d.size->d.size<4611686018427387904->
  LessReadsK P g lb enc 3 lt blk off d.size w->HoldsK enc 3 w blk off d->blk<w.heap.size->
  Calls P fS #[.iface tS (.slice (some ⟨blk,off,none⟩) d.size c),.func (.func g) #[] lb] w λe w'=>e=.returned (.tuple #[])/\∃n os,w'=grow (putRowK enc 3 (Sort.ahead w n) blk off (pdq lt d 0 d.size (Lib.bitLen d.size) true true)) os
 tiny:∀(p:WN)(n c:Nat)(lb:QQ)(w:World),n<=1->Calls P fS #[.iface tS (.slice p n c),.func (.func g) #[] lb] w λe w'=>e=.returned (.tuple #[])/\∃os,w'=grow w os
 less:∀(blk off c Bs size:Nat)(W:World)(G:Nat->ByteArray),W.cell? ⟨Bs,0,none⟩=some (.slice (some ⟨blk,off,none⟩) size c)->(∀t,t<size->W.cell? ⟨blk,off+t*3+2,none⟩=some (.string (G t)))->
  ∀i j:Nat,i<size->j<size->Calls P g #[.int .i64 i,.int .i64 j,.pointer (some ⟨Bs,0,none⟩)] W λe w'=>e=.returned (.bool (Op.bytesLess (G i).toList (G j).toList))/\∃q,w'=W.drewN q
 enters:∀args w,(callFunc fS args).run P w=.ok (.enter fS args) w
section
variable[gY]
end
def St.akE[aH]{F:Env}{J:aA}{w:World}(h:SR P F J w){id:Nat}{o o':bI}(m:J.get id=some o)(q:o.own=true)(r:o'.own=true)(s:Live P F w id o'):St P F J w F (J.put id o') w:=by
 have get:∀i u,(J.put id o').get i=some u->(i=id/\u=o')\/(i≠id/\J.get i=some u):=by
  intro i u hi;rw[aA.get_put]at hi;split at hi
  ·next e=>cases hi;exact .inl ⟨e,rfl⟩
  ·next e=>exact .inr ⟨e,hi⟩
 have own:∀i u,(J.put id o').get i=some u->u.own=true->∃d,J.get i=some d/\d.own=true:=by
  intro i u hi t;rcases get i u hi with⟨rfl,rfl⟩|⟨_,a⟩
  ·exact⟨o,m,q⟩
  ·exact⟨u,a,t⟩
 have f:∀i u,(J.put id o').get i=some u->∃d,J.get i=some d:=by
  intro i u hi;rcases get i u hi with⟨rfl,rfl⟩|⟨_,a⟩
  ·exact⟨o,m⟩
  ·exact⟨u,a⟩
 refine⟨Env.le.refl _,⟨h.nS,h.dom,λi u hi=>?_,h.kK,λi u n x p y g j k z A B=>?_,h.jl,λi u p g j k=>?_,h.tabs⟩,dD _,λ_ _ _=>rfl,λi u p a D E G=>?_,rfl,rfl,rfl,rfl,dD _,λ_ h=>.inl h,λ_ h=>.inl h⟩
 ·rcases get i u hi with⟨rfl,rfl⟩|⟨_,a⟩
  ·exact s
  ·exact h.live i u a
 ·obtain⟨v,b,c⟩:=own i u g j;obtain⟨H,l⟩:=f n x k;exact h.sep i v n H p y b c l z A B
 ·obtain⟨v,b,c⟩:=own i u g j;exact h.lV i v p b c k
 ·obtain⟨v,b,c⟩:=own i u a D;exact .inr ⟨i,v,p,b,c,E,G,rfl⟩
def aS.ones{ro:Qf}:∀{l:Q1}{vs:Q6},aS ro l vs->l.all GV.scalar=true->∀v∈vs,v.oneCell'=true
 |[],vs,h,_,v,b=>by simp only[aS]at h;subst h;simp at b
 |a::l,vs,h,c,v,b=>by
  simp only[aS]at h;obtain⟨x,xs,rfl,h1,d⟩:=h;simp only[rH,aK]at c;rcases bH.1 b with rfl|b
  ·letI:aH:=Tg [] [] 0
   rw[Q8];exact GR.pX h1 c.1
  ·exact aS.ones d c.2 v b
end
open Go.Sort Go.Proofs Go.RowKit
noncomputable section
variable{P:Program}
def KO:GV->Int
 |.g [.i .u64 t,_,_,_,_]=>t
 |_=>0
def isTagged:GV->Bool
 |.g [.i .u64 _,_,_,_,_]=>true
 |_=>false
def zl(xs:Q1)(i:Nat):Int:=KO (xs.getD i (.b false))
def Jg(a b:Int):Int:=if a<b then -1 else if b<a then 1 else 0
def Cm(xs:Q1)(i j:Nat):Int:=Jg (zl xs i) (zl xs j)
def kS(xs:Q1):Array Nat:=pdq (ltOf (Cm xs)) (Array.range xs.length) 0 (Array.range xs.length).size (Lib.bitLen (Array.range xs.length).size) true true
def xB(xs:Q1):Q1:=(kS xs).toList.map λi=>xs.getD i (.b false)
def RP:Q1->Option Q1
 |[.l xs]=>if xs.length<=281474976710656/\xs.all isTagged=true then some [.l (xB xs)]else none
 |_=>none
def Wx(xs:Q1)(i j:Nat):ltOf (Cm xs) i j=decide (zl xs i<zl xs j):=by
 unfold ltOf Cm Jg;rw[yI];simp only[decide_eq_true_eq];split
 ·omega
 ·split<;>omega
def ac9(xs:Q1):SWO (ltOf (Cm xs)) where
 irrefl x:=by rw[Wx];simp
 trans x y z h1 h2:=by rw[Wx]at *;simp only[decide_eq_true_eq]at *;omega
 ntrans x y z h1 h2:=by rw[Wx]at *;simp only[decide_eq_false_iff_not]at *;omega
def aaP(xs:Q1):(kS xs).size=xs.length/\(kS xs).toList.Perm (List.range xs.length):=by
 obtain⟨c,_,d⟩:=(pdq_sorts (ltOf (Cm xs)) (ac9 xs) (Array.range xs.length) 0 (Array.range xs.length).size (Lib.bitLen (Array.range xs.length).size) true true (tJ _) (dD _) (Or.inl rfl)).1;have a:(kS xs).size=xs.length:=by unfold kS;rw[c];simp
 refine⟨a,?_⟩;have e:(kS xs).extract 0 (Array.range xs.length).size=kS xs:=by have:=Array.extract_size (xs:=kS xs);rw[a]at this;simpa using this
 have f:(Array.range xs.length).extract 0 (Array.range xs.length).size=Array.range xs.length:=Array.extract_size;have b:((kS xs).extract 0 (Array.range xs.length).size).toList.Perm ((Array.range xs.length).extract 0 (Array.range xs.length).size).toList:=d;rw[e,f]at b;simpa using b
def ac2(xs:Q1):(xB xs).Perm xs:=by have:=(aaP xs).2.map (λi=>xs.getD i (.b false));rwa [axd]at this
def XB(xs:Q1):(xB xs).length=xs.length:=(ac2 xs).length_eq
def aDY(xs:Q1):∀i j:Nat,∀a b,i<j->(xB xs)[i]? =some a->(xB xs)[j]? =some b->KO a<=KO b:=by
 intro i j a b d e f;unfold xB at e f;have m:=(pdq_sorts (ltOf (Cm xs)) (ac9 xs) (Array.range xs.length) 0 (Array.range xs.length).size (Lib.bitLen (Array.range xs.length).size) true true (tJ _) (dD _) (Or.inl rfl)).2;have g:=(aaP xs).1;rw[iY]at e f;obtain⟨x,n,rfl⟩:=bC.1 e;obtain⟨y,k,rfl⟩:=bC.1 f;have c:j<(kS xs).size:=by have:=(fM.1 k).1;simpa using this
 have h:=m i j (tJ _) d (by simpa[g]using c);have o:(kS xs)[i]! =x:=by
  have:=(fM.1 n)
  rw[getElem!_pos _ i (by omega)];simpa using this.2
 have p:(kS xs)[j]! =y:=by
  have:=(fM.1 k)
  rw[getElem!_pos _ j c];simpa using this.2
 have l:ltOf (Cm xs) (kS xs)[j]! (kS xs)[i]! =false:=h;rw[o,p,Wx,decide_eq_false_iff_not]at l;unfold zl at l;omega
structure aez(P:Program)(fS g:Nat):Prop where
 big:∀(enc:Nat->List Value)(cf:Nat->Nat->Int)(blk off c:Nat)(d:Array Nat)(w:World),(∀x,(enc x).length=5)->(∀x,∀v∈enc x,v.oneCell'=true)->SWO (ltOf cf)->CmpLays P g #[] enc 5 cf blk off d.size w->HoldsK enc 5 w blk off d->blk<w.heap.size->d.size<4611686018427387904->
  Calls P fS #[.slice (some ⟨blk,off,none⟩) d.size c,.func (.func g) #[] #[]] w λe w'=>e=.returned (.tuple #[])/\∃n os,w'=sortWorldK enc 5 w blk off n (pdq (ltOf cf) d 0 d.size (Lib.bitLen d.size) true true) os
 none:∀(p:WN)(c:Nat)(w:World),Calls P fS #[.slice p 0 c,.func (.func g) #[] #[]] w λe w'=>e=.returned (.tuple #[])/\w'=w
 cmp:∀(a b:Int)(a1 a2 a3 a4 b1 b2 b3 b4:Value)(W:World),(∀v∈[a1,a2,a3,a4,b1,b2,b3,b4],v.oneCell'=true)->
  Calls P g #[.agg #[.int .u64 a,a1,a2,a3,a4],.agg #[.int .u64 b,b1,b2,b3,b4]] W λe w'=>e=.returned (.int .i64 (Jg a b))/\∃q os',w'=grow (W.drewN q) os'
 enters:∀args w,(callFunc fS args).run P w=.ok (.enter fS args) w
section
variable[gY]
def abL(k g:Nat):dZ:=λargs J=>match args with
 |[.sv id n,.fn a [] []]=>match J.get id with
  |some (.vec b c f)=>
   if Nat.beq a g&&Nat.beq b n&&Nat.ble J.lock id then
    match fQ (.call k [n] 0)with
    |some m=>match fQ (.same n m)with
     |some d=>some (.fB [],J.put id (.vec d c f))
     |none=>none
    |none=>none
   else none
  |_=>none
 |_=>none
end
def aES{ro:Qf}{x:GV}{y:Value}(e:isTagged x=true)(h:GR ro x y):∃a b c d,y=.agg #[.int .u64 (KO x),a,b,c,d]:=by
 unfold isTagged at e;split at e
 ·next t f g i j=>
  simp only[GR,aS]at h;obtain⟨k,rfl,m,n,rfl,rfl,a,l,rfl,_,b,o,rfl,_,c,p,rfl,_,d,q,rfl,_,rfl⟩:=h;exact⟨a,b,c,d,rfl⟩
 ·cases e
def ayq{ro:Qf}{x:GV}{y:Value}(a:isTagged x=true)(h:GR ro x y)(b:x.cells.all GV.scalar=true):∀v∈y.cells.toList,v.oneCell'=true:=by
 unfold isTagged at a;split at a
 ·simp only[GR]at h;obtain⟨c,rfl,h⟩:=h;exact aS.ones h b
 ·cases a
def afz{b:Q6}{sz:Nat}(h0:0<sz)(h:∀y∈b,y.cells.size=sz){j:Nat}(e:j<b.length*sz):(dJ b)[j]? =some ((b.getD (j/sz) undef).cells.toList.getD (j%sz) undef):=by
 letI:aH:=Tg [] [] 0
 have c:j/sz<b.length:=(Nat.div_lt_iff_lt_mul h0).2 e;have a:j%sz<sz:=Nat.mod_lt _ h0;have d:=bT c;have:=afy h d (j%sz) a;rw[show j/sz*sz+j%sz=j by rw[Iy];exact Nat.div_add_mod j sz]at this;rw[this];have f:=h _ (gX c);rw[DN (by omega)];simp[List.getD,d,f,a]
def aDW{T:aH}{fS g k:Nat}(Fx:aez P fS g)(hI:∀gs aa,T.I k gs=some aa->RP gs=some aa):@dO T P fS (@abL T.togY k g):=by
 letI:=T
 intro args J r J' D F w vs hS E;unfold abL at D;split at D;rotate_left
 ·cases D
 next Y7 n g'=>
 split at D;rotate_left
 ·cases D
 next n0 et f B=>
 split at D;rotate_left
 ·cases D
 next S=>
 simp only[aK]at S;obtain⟨⟨c2,c3⟩,c6⟩:=S;have c2:=(bK c2).symm;have c3:=(bK c3).symm;have c6:=vC c6;subst c2;subst c3;split at D;rotate_left
 ·cases D
 next m0 az=>
 split at D;rotate_left
 ·cases D
 next m hm=>
 cases D;obtain⟨x,bc,rfl,hx,aD⟩:=E;obtain⟨y,bd,rfl,V,al⟩:=aD;simp only[aC]at al;subst al;simp only[VR,aC]at V;obtain⟨us,vs,rfl,rfl,rfl⟩:=V;simp only[VR]at hx;obtain⟨l,ab,hx⟩:=hx;obtain⟨g0,k1,k2⟩:=gU az;simp only[Nd.den,valsOf,ab]at k2;split at k2;rotate_left
 ·cases k2
 next aa am=>
 have M:=hI _ _ am;simp only[RP]at M;split at M;rotate_left
 ·cases M
 next aE=>
 cases M;simp only[kX,aY]at k2;subst k2;obtain⟨bb,W⟩:=aE;obtain⟨gm,m1,m2⟩:=gU hm;have aL:aH.val m0=some (.l (xB l)):=k1;simp only[Nd.den,ab,aL]at m2;rw[aj (XB l)]at m2;simp only[aY]at m2;subst m2;have fin:∀{L:Env}{J2:aA}{w':World},St P F J w L J2 w'->∃L ,St P F J w L J2 w'/\VR L (.fB []) (.tuple #[]):=λh=>⟨_,h,by simp only[VR];exact⟨[],rfl,by simp[aC]⟩⟩
 rcases hx with⟨q,hq,be,rfl⟩|⟨aM,an,rfl⟩
 rotate_left
 ·
   subst an;refine .inr ⟨Fx.enters _ w,Calls.mono' (Fx.none none 0 w) ?_⟩;rintro e w' ⟨rfl,hw⟩
   rw[hw];have aP:xB []=[]:=jH (XB []);rw[aP]at m1;obtain⟨L,f1,f2⟩:=fin (St.akE (o':=.vec m et f) hS B rfl rfl (.inr ⟨aM,m,et,f,rfl,m1⟩));exact⟨_,rfl,L,f1,f2⟩
 have aR:=hS.at B hq;obtain⟨bh,cs,Jj,Jo,s,o1,o2,o3,o4,o5,o6,N,o8,o9⟩:=aR;rw[ab]at o1;cases o1;have bi:s.length=l.length:=o3.length.symm;by_cases h2:l.length=0
 ·have a0:l=[]:=jH h2;have a5:xB l=l:=by rw[a0];exact jH (XB [])
  rw[h2];refine .inr ⟨Fx.enters _ w,Calls.mono' (Fx.none _ _ w) ?_⟩;rintro e w' ⟨rfl,hw⟩
  rw[hw];obtain⟨L,f1,f2⟩:=fin (St.akE (o':=.vec m et f) hS B rfl rfl (.inl ⟨q,hq,l,cs,Jj,Jo,s,by rw[m1,a5],o2,o3,o4,o5,o6,N,o8,o9⟩));exact⟨_,rfl,L,f1,f2⟩
 have X:∀i,i<s.length->∃a b c d,s.getD i undef=.agg #[.int .u64 (zl l i),a,b,c,d]:=by
  intro i hi;have z:l[i]? =some (l[i]'(by omega)):=bT _;obtain⟨y,G,H⟩:=o3.at z;have O:zl l i=KO (l[i]'(by omega)):=by unfold zl;simp[List.getD,z]
  obtain⟨a,b,c,d,e⟩:=aES (List.all_eq_true.1 W _ (gX (by omega))) H;exact⟨a,b,c,d,by simp only[List.getD,G,rV,e,O]⟩
 have Q:q.es=5:=by
  obtain⟨a,b,c,d,e⟩:=X 0 (by omega);have h0:s.getD 0 undef∈s:=by simp only[List.getD,bT (show 0<s.length by omega),rV];exact gX _
  have:=o4 _ h0;rw[e]at this;exact this.symm
 have ao:∀y∈s,y.cells.size=5:=λy V=>by rw[o4 y V,Q]
 let Qe:Value:=.agg #[.int .u64 0,.bool false,.bool false,.bool false,.bool false]
 let p:Nat->List Value:=λi=>(s.getD i Qe).cells.toList
 have ac:∀i,i<s.length->p i=(s.getD i undef).cells.toList:=by
  intro i hi;show(s.getD i Qe).cells.toList=_
  simp[List.getD,bT hi]
 have ap:∀i,¬i<s.length->p i=[.int .u64 0,.bool false,.bool false,.bool false,.bool false]:=by
  intro i hi;show(s.getD i Qe).cells.toList=_
  simp[List.getD,wG (show s.length<=i by omega)];rfl
 have ad:∀i,∃a b c d,p i=[.int .u64 (zl l i),a,b,c,d]:=by
  intro i;by_cases hi:i<s.length
  ·obtain⟨a,b,c,d,e⟩:=X i hi;exact⟨a,b,c,d,by rw[ac i hi,e];rfl⟩
  ·refine⟨.bool false,.bool false,.bool false,.bool false,?_⟩;rw[ap i hi];have:zl l i=0:=by unfold zl;simp[List.getD,wG (show l.length<=i by omega),KO]
   rw[this]
 have ae:∀i,(p i).length=5:=by intro i;obtain⟨a,b,c,d,e⟩:=ad i;rw[e];rfl
 have I:∀i,∀v∈p i,v.oneCell'=true:=by
  intro i v E;by_cases hi:i<s.length
  ·rw[ac i hi]at E;have z:l[i]? =some (l[i]'(by omega)):=bT _;obtain⟨y,G,H⟩:=o3.at z;have:s.getD i undef=y:=by simp[List.getD,G]
   rw[this]at E;have af:=o8 _ (gX (show i<l.length by omega));exact ayq (List.all_eq_true.1 W _ (gX (by omega))) H af v E
  ·rw[ap i hi]at E;simp only[bH,Ir,or_false]at E;rcases E with rfl|rfl|rfl|rfl|rfl<;>rfl
 have a6:∀i,i<l.length->(Array.range l.length)[i]! =i:=by intro i hi;rw[getElem!_pos _ i (by simpa using hi)];simp
 have hH:HoldsK p 5 w q.bl q.ba (Array.range l.length):=by
  intro j hj;rw[size_flatK,adN]at hj;rw[get_flatK _ _ _ _ (by rw[adN];exact hj),a6 _ (by omega),ac _ (by omega)];have h1:=o5 j _ (afz (by omega) ao (by omega));refine⟨?_,?_⟩
  ·simp only[World.cell?,o2];rw[ah (by simp),h1];have:((s.getD (j/5) undef).cells.toList).length=5:=by
    have h0:s.getD (j/5) undef∈s:=by simp only[List.getD,bT (show j/5<s.length by omega),rV];exact gX _
    simpa using ao _ h0
   rw[getElem!_pos _ (j%5) (by omega)];show some (((s.getD (j/5) undef).cells.toList)[j%5]?.getD undef)=some (((s.getD (j/5) undef).cells.toList)[j%5]'_)
   rw[bT (show j%5<((s.getD (j/5) undef).cells.toList).length by omega)];rfl
  ·have aq:j<q.sz:=by rw[Q]at o6;omega
   have:=N.free rfl j aq;simp only[World.frozen?,o2];simpa using λh=>by omega
 have ar:Array.size (Array.range l.length)=l.length:=adN;have Y:q.bl<w.heap.size:=wY o2;have av:CmpLays P g #[] p 5 (Cm l) q.bl q.ba (Array.range l.length).size w:=by
  intro mm os dk bj i j;obtain⟨a1,a2,a3,a4,e1⟩:=ad i;obtain⟨b1,b2,b3,b4,e2⟩:=ad j;have h1:=Fx.cmp (zl l i) (zl l j) a1 a2 a3 a4 b1 b2 b3 b4 (sortWorldK p 5 w q.bl q.ba mm dk os) (by
   intro v E;simp only[bH,Ir,or_false]at E;have i1:=I i;have i2:=I j;rw[e1]at i1;rw[e2]at i2;rcases E with rfl|rfl|rfl|rfl|rfl|rfl|rfl|rfl
   ·exact i1 _ (by simp)
   ·exact i1 _ (by simp)
   ·exact i1 _ (by simp)
   ·exact i1 _ (by simp)
   ·exact i2 _ (by simp)
   ·exact i2 _ (by simp)
   ·exact i2 _ (by simp)
   ·exact i2 _ (by simp))
  rw[e1,e2];exact h1
 have hc:=Fx.big p (Cm l) q.bl q.ba (q.sz/q.es) (Array.range l.length) w ae I (ac9 l) av hH Y (by omega);rw[ar]at hc;refine .inr ⟨Fx.enters _ w,Calls.mono' hc ?_⟩;rintro e w' ⟨rfl,nn,os,rfl⟩
 have aw:pdq (ltOf (Cm l)) (Array.range l.length) 0 l.length (Lib.bitLen l.length) true true=kS l:=by unfold kS;rw[ar]
 rw[aw];obtain⟨p1,p2⟩:=aaP l;have ax:∀i∈(kS l).toList,i<l.length:=λi hi=>Aj.1 (p2.mem_iff.1 hi);unfold sortWorldK;have ag:(grow (putRowK p 5 (Sort.ahead w nn) q.bl q.ba (kS l)) os).heap[q.bl]? =some (.cells (Go.Sort.putCells id q.ba (flatK p 5 (kS l)) cs) Jj Jo):=by
  show((w.heap.modify q.bl (onCells (Go.Sort.putCells id q.ba (flatK p 5 (kS l)))))++os)[q.bl]? =_
  rw[Yl (by simpa using Y),Lc,aj rfl,o2];rfl
 have A:∀Z,Z<w.heap.size->Z≠q.bl->(grow (putRowK p 5 (Sort.ahead w nn) q.bl q.ba (kS l)) os).heap[Z]? =w.heap[Z]?:=by
  intro Z h1 h2;show((w.heap.modify q.bl (onCells (Go.Sort.putCells id q.ba (flatK p 5 (kS l)))))++os)[Z]? =_
  rw[Yl (by simpa using h1),Lc,ah (λe=>h2 e.symm)]
 let t:Q6:=(kS l).toList.map λi=>s.getD i Qe
 have ai:∀y∈t,y.cells.size=5:=by intro y V;obtain⟨i,hi,rfl⟩:=rM.1 V;have:=ae i;simpa[p]using this
 have R:Gi (Go.Sort.putCells id q.ba (flatK p 5 (kS l)) cs) q.ba (dJ t):=by
  intro u v ak;have bk:t.length=l.length:=by simp[t,p1]
  have a7:u<t.length*5:=by have:=(fM.1 ak).1;rwa [Gj ai]at this
  rw[afz (by omega) ai a7]at ak;cases ak;have aq:u<q.sz:=by rw[Q]at o6;omega
  have a8:q.ba+u<cs.size:=by have:=N.fits;omega
  unfold Go.Sort.putCells;rw[Array.getElem?_mapIdx,DN a8];simp only[gZ,size_flatK,p1];rw[aj ⟨by omega,by omega⟩,YE,get_flatK _ _ _ _ (by rw[p1];omega)];have O:u/5<(kS l).size:=by omega
  have e1:t.getD (u/5) undef=s.getD (kS l)[u/5]! Qe:=by simp only[t,List.getD,iY];rw[getElem!_pos _ (u/5) O];simp[O]
  rw[e1];have e2:=ae (kS l)[u/5]!;show some (id ((p (kS l)[u/5]!)[u%5]!))=some ((p (kS l)[u/5]!).getD (u%5) undef)
  rw[getElem!_pos _ (u%5) (by omega)];simp only[List.getD,bT (show u%5<(p (kS l)[u/5]!).length by omega),rV,id]
 have a9:aS F.ro (xB l) t:=by unfold xB;refine aS.ofFn _ λi hi=>?_;have ba:=ax i hi;have z:l[i]? =some (l[i]'ba):=bT _;obtain⟨y,G,H⟩:=o3.at z;simp only[List.getD,z,G,rV];exact H
 have af:∀x∈xB l,x.cells.all GV.scalar=true:=λx hx=>o8 x ((ac2 l).mem_iff.1 hx)
 have s2:=St.ayj (ro':=F.ro) (o':=.vec m et f) (w':=grow (putRowK p 5 (Sort.ahead w nn) q.bl q.ba (kS l)) os) hS B rfl rfl c6 hq
  ⟨⟨rfl,rfl,rfl,by simp[putRowK],λZ h1 h2=>A Z h1 h2⟩,λ_ _ h=>h,λb hb=>.inl hb,λb o hb=>by have ay:=hS.jl b o hb;rw[A b (wY ay) (λe=>by subst e;rw[hS.lV Y7 _ q B rfl hq]at hb;cases hb)];exact ay,hS.lV Y7 _ q B rfl hq⟩
  ⟨xB l,_,Jj,Jo,t,m1,ag,a9,λy V=>by rw[ai y V,Q],R,by rw[XB];exact o6,
   {fits:=by simpa[Go.Sort.putCells]using N.fits,le:=N.le,shut:=N.shut,cell:=λu a hk=>by simp at hk,free:=N.free,whole:=λh=>by obtain⟨a1,a2,a3⟩:=N.whole h;exact⟨a1,by simpa[Go.Sort.putCells]using a2,a3⟩,room:=N.room},af,o9⟩
 obtain⟨L,f1,f2⟩:=fin s2;exact⟨_,rfl,L,f1,f2⟩
