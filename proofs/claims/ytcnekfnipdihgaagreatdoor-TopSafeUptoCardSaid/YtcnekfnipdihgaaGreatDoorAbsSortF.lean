/- A step that changes one block alone. -/
import Derived.Test.YtcnekfnipdihgaaGreatDoorAbsJ
import Derived.Shelf.SlSortFuncK.WholeK
import Derived.Shelf.GgSortFunc.Tiny
import Derived.Sort.LotA
import Derived.Shelf.SlSortCmp.WholeK
set_option linter.all false
namespace Go.aP
noncomputable section
variable{P:Program}
structure anm(bl:Nat)(ro ro':QP)(w w':World):Prop where
 kept:Ua ⟨w,λb=>b=bl,λ_=>none⟩ w'
 le:∀b o,ro b=some o->ro' b=some o
 new:∀b,ro' b≠none->ro b≠none\/w.heap.size<=b
 at':∀b o,ro' b=some o->w'.heap[b]? =some o
 off:ro' bl=none
section
variable[aJ]
def St.ayg{F:Env}{J:aC}{w w':World}{ro':QP}(h:SR P F J w){id:Nat}{o o':bM}{q:Place}(g:J.get id=some o)(n:o.own=true)(H:o'.own=true)(I:J.lock<=id)(j:F id=some q)
 (k:anm q.bl F.ro ro' w w') (L:OR P ⟨F.pl,ro',F.gh⟩ q w' o'):St P F J w ⟨F.pl,ro',F.gh⟩ (J.put id o') w':=by
 have a:(F:Env).le ⟨F.pl,ro',F.gh⟩:=⟨λ_ _ h=>h,k.le,λ_ h=>h⟩
 have get:∀i u,(J.put id o').get i=some u->(i=id/\u=o')\/(i≠id/\J.get i=some u):=by
  intro i u hi;rw[aC.get_put]at hi;split at hi
  ·next e=>cases hi;exact .inl ⟨e,rfl⟩
  ·next e=>exact .inr ⟨e,hi⟩
 have own:∀i u,(J.put id o').get i=some u->u.own=true->∃l,J.get i=some l/\l.own=true:=by
  intro i u hi M;rcases get i u hi with⟨rfl,rfl⟩|⟨_,h1⟩
  ·exact⟨o,g,n⟩
  ·exact⟨u,h1,M⟩
 have r:∀i u,(J.put id o').get i=some u->∃l,J.get i=some l:=by
  intro i u hi;rcases get i u hi with⟨rfl,rfl⟩|⟨_,h1⟩
  ·exact⟨o,g⟩
  ·exact⟨u,h1⟩
 refine⟨a,⟨h.nR,h.dom,λi u hi=>?_,h.kH,λi u G N p O s t d Q R S=>?_,k.at',λi u p s t d=>?_,λp x=>(h.tabs p x).mono a⟩,k.kept.size,λbl y z=>?_,λi u p h1 m T U=>?_,k.kept.os,k.kept.tape,k.kept.output,rfl,dK _,λ_ h=>.inl h,λb y=>?_⟩
 ·rcases get i u hi with⟨rfl,rfl⟩|⟨A,h1⟩
  ·exact .inl ⟨q,j,L⟩
  ·refine((h.live i u h1).heap λp x c=>k.kept.keep _ c.lt ?_).mono a
   intro e;exact h.sep id o i u q p g n h1 (λe=>A e.symm) j x e.symm
 ·obtain⟨v,B,D⟩:=own i u s t;obtain⟨W,E⟩:=r G N d;exact h.sep i v G W p O B D E Q R S
 ·rcases get i u s with⟨rfl,rfl⟩|⟨_,h1⟩
  ·have:(F:Env) i=some p:=d;rw[j]at this;cases this;exact k.off
  ·have c:=h.at h1 (show F i=some p from d);cases f:ro' p.bl with
   |none=>exact f
   |some X=>
    rcases k.new p.bl (by rw[f];simp)with m|m
    ·exact absurd (h.lU i u p h1 t d) m
    ·have:=c.lt;omega
 ·exact k.kept.keep bl y λe=>z id o q g n I j e.symm
 ·obtain⟨v,B,D⟩:=own i u h1 m;exact .inr ⟨i,v,p,B,D,T,U,rfl⟩
 ·rcases k.new b y with h1|h1
  ·exact .inl h1
  ·exact .inr (.inl h1)
end
end
open Go.Sort Go.Proofs
noncomputable section
variable{P:Program}
def MZ:∀a b:Q2,Op.bytesLess a b=decide (a<b)
 |_,[]=>by simp[Op.bytesLess]
 |[],_::_=>by simp[Op.bytesLess]
 |a::x,b::y=>by rw[Op.bytesLess,MZ x y,yR];simp[aeC]
def axb{α:Type}(xs:List α)(d:α):(List.range xs.length).map (λi=>xs.getD i d)=xs:=by
 apply IK;intro k;rw[iO];by_cases h:k<xs.length
 ·rw[aeI h,bV h];simp[List.getD,bV h]
 ·rw[wV (by simp;omega),wV ah];rfl
structure aF4(P:Program)(fS g tS:Nat):Prop where
 big:∀(enc:Nat->List Value)(lt:Nat->Nat->Bool)(lb:W2)(blk off c:Nat)(d:Array Nat)(w:World),(∀x,(enc x).length=3)->(∀x,∀v∈enc x,v.oneCell'=true)->SWO lt->2<=d.size->d.size<4611686018427387904->
  LessReadsK P g lb enc 3 lt blk off d.size w->HoldsK enc 3 w blk off d->blk<w.heap.size->
  Calls P fS #[.iface tS (.slice (some ⟨blk,off,none⟩) d.size c),.func (.func g) #[] lb] w λe w'=>e=.returned (.tuple #[])/\∃n os,w'=grow (putRowK enc 3 (Sort.ahead w n) blk off (pdq lt d 0 d.size (Lib.bitLen d.size) true true)) os
 tiny:∀(p:Ys)(n c:Nat)(lb:W2)(w:World),n<=1->Calls P fS #[.iface tS (.slice p n c),.func (.func g) #[] lb] w λe w'=>e=.returned (.tuple #[])/\∃os,w'=grow w os
 less:∀(blk off c Bs size:Nat)(W:World)(G:Nat->ByteArray),W.cell? ⟨Bs,0,none⟩=some (.slice (some ⟨blk,off,none⟩) size c)->(∀t,t<size->W.cell? ⟨blk,off+t*3+2,none⟩=some (.string (G t)))->
  ∀i j:Nat,i<size->j<size->Calls P g #[.int .i64 i,.int .i64 j,.pointer (some ⟨Bs,0,none⟩)] W λe w'=>e=.returned (.bool (Op.bytesLess (G i).toList (G j).toList))/\∃q,w'=W.drewN q
 enters:∀args w,(callFunc fS args).run P w=.ok (.enter fS args) w
section
variable[iD]
end
def St.alb[aJ]{F:Env}{J:aC}{w:World}(h:SR P F J w){id:Nat}{o o':bM}(m:J.get id=some o)(q:o.own=true)(r:o'.own=true)(s:Live P F w id o'):St P F J w F (J.put id o') w:=by
 have get:∀i u,(J.put id o').get i=some u->(i=id/\u=o')\/(i≠id/\J.get i=some u):=by
  intro i u hi;rw[aC.get_put]at hi;split at hi
  ·next e=>cases hi;exact .inl ⟨e,rfl⟩
  ·next e=>exact .inr ⟨e,hi⟩
 have own:∀i u,(J.put id o').get i=some u->u.own=true->∃d,J.get i=some d/\d.own=true:=by
  intro i u hi t;rcases get i u hi with⟨rfl,rfl⟩|⟨_,a⟩
  ·exact⟨o,m,q⟩
  ·exact⟨u,a,t⟩
 have f:∀i u,(J.put id o').get i=some u->∃d,J.get i=some d:=by
  intro i u hi;rcases get i u hi with⟨rfl,rfl⟩|⟨_,a⟩
  ·exact⟨o,m⟩
  ·exact⟨u,a⟩
 refine⟨Env.le.refl _,⟨h.nR,h.dom,λi u hi=>?_,h.kH,λi u n x p y g j k z A B=>?_,h.jl,λi u p g j k=>?_,h.tabs⟩,dK _,λ_ _ _=>rfl,λi u p a D E G=>?_,rfl,rfl,rfl,rfl,dK _,λ_ h=>.inl h,λ_ h=>.inl h⟩
 ·rcases get i u hi with⟨rfl,rfl⟩|⟨_,a⟩
  ·exact s
  ·exact h.live i u a
 ·obtain⟨v,b,c⟩:=own i u g j;obtain⟨H,l⟩:=f n x k;exact h.sep i v n H p y b c l z A B
 ·obtain⟨v,b,c⟩:=own i u g j;exact h.lU i v p b c k
 ·obtain⟨v,b,c⟩:=own i u a D;exact .inr ⟨i,v,p,b,c,E,G,rfl⟩
def aT.ones{ro:QP}:∀{l:Q3}{vs:Qt},aT ro l vs->l.all GV.scalar=true->∀v∈vs,v.oneCell'=true
 |[],vs,h,_,v,b=>by simp only[aT]at h;subst h;simp at b
 |a::l,vs,h,c,v,b=>by
  simp only[aT]at h;obtain⟨x,xs,rfl,h1,d⟩:=h;simp only[qZ,aO]at c;rcases bJ.1 b with rfl|b
  ·letI:aJ:=Tg [] [] 0
   rw[Sr];exact GR.qw h1 c.1
  ·exact aT.ones d c.2 v b
end
open Go.Sort Go.Proofs Go.RowKit
noncomputable section
variable{P:Program}
def Lh:GV->Int
 |.g [.i .u64 t,_,_,_,_]=>t
 |_=>0
def isTagged:GV->Bool
 |.g [.i .u64 _,_,_,_,_]=>true
 |_=>false
def zH(xs:Q3)(i:Nat):Int:=Lh (xs.getD i (.b false))
def Js(a b:Int):Int:=if a<b then -1 else if b<a then 1 else 0
def CV(xs:Q3)(i j:Nat):Int:=Js (zH xs i) (zH xs j)
def lq(xs:Q3):Array Nat:=pdq (ltOf (CV xs)) (Array.range xs.length) 0 (Array.range xs.length).size (Lib.bitLen (Array.range xs.length).size) true true
def xO(xs:Q3):Q3:=(lq xs).toList.map λi=>xs.getD i (.b false)
def Tj:Q3->Option Q3
 |[.l xs]=>if xs.length<=281474976710656/\xs.all isTagged=true then some [.l (xO xs)]else none
 |_=>none
def Xj(xs:Q3)(i j:Nat):ltOf (CV xs) i j=decide (zH xs i<zH xs j):=by
 unfold ltOf CV Js;rw[yR];simp only[decide_eq_true_eq];split
 ·omega
 ·split<;>omega
def adI(xs:Q3):SWO (ltOf (CV xs)) where
 irrefl x:=by rw[Xj];simp
 trans x y z h1 h2:=by rw[Xj]at *;simp only[decide_eq_true_eq]at *;omega
 ntrans x y z h1 h2:=by rw[Xj]at *;simp only[decide_eq_false_iff_not]at *;omega
def abn(xs:Q3):(lq xs).size=xs.length/\(lq xs).toList.Perm (List.range xs.length):=by
 obtain⟨c,_,d⟩:=(pdq_sorts (ltOf (CV xs)) (adI xs) (Array.range xs.length) 0 (Array.range xs.length).size (Lib.bitLen (Array.range xs.length).size) true true (sG _) (dK _) (Or.inl rfl)).1;have a:(lq xs).size=xs.length:=by unfold lq;rw[c];simp
 refine⟨a,?_⟩;have e:(lq xs).extract 0 (Array.range xs.length).size=lq xs:=by have:=Array.extract_size (xs:=lq xs);rw[a]at this;simpa using this
 have f:(Array.range xs.length).extract 0 (Array.range xs.length).size=Array.range xs.length:=Array.extract_size;have b:((lq xs).extract 0 (Array.range xs.length).size).toList.Perm ((Array.range xs.length).extract 0 (Array.range xs.length).size).toList:=d;rw[e,f]at b;simpa using b
def adB(xs:Q3):(xO xs).Perm xs:=by have:=(abn xs).2.map (λi=>xs.getD i (.b false));rwa [axb]at this
def Yi(xs:Q3):(xO xs).length=xs.length:=(adB xs).length_eq
def aDH(xs:Q3):∀i j:Nat,∀a b,i<j->(xO xs)[i]? =some a->(xO xs)[j]? =some b->Lh a<=Lh b:=by
 intro i j a b d e f;unfold xO at e f;have m:=(pdq_sorts (ltOf (CV xs)) (adI xs) (Array.range xs.length) 0 (Array.range xs.length).size (Lib.bitLen (Array.range xs.length).size) true true (sG _) (dK _) (Or.inl rfl)).2;have g:=(abn xs).1;rw[iO]at e f;obtain⟨x,n,rfl⟩:=bG.1 e;obtain⟨y,k,rfl⟩:=bG.1 f;have c:j<(lq xs).size:=by have:=(fV.1 k).1;simpa using this
 have h:=m i j (sG _) d (by simpa[g]using c);have o:(lq xs)[i]! =x:=by
  have:=(fV.1 n)
  rw[getElem!_pos _ i ah];simpa using this.2
 have p:(lq xs)[j]! =y:=by
  have:=(fV.1 k)
  rw[getElem!_pos _ j c];simpa using this.2
 have l:ltOf (CV xs) (lq xs)[j]! (lq xs)[i]! =false:=h;rw[o,p,Xj,decide_eq_false_iff_not]at l;unfold zH at l;omega
structure ae1(P:Program)(fS g:Nat):Prop where
 big:∀(enc:Nat->List Value)(cf:Nat->Nat->Int)(blk off c:Nat)(d:Array Nat)(w:World),(∀x,(enc x).length=5)->(∀x,∀v∈enc x,v.oneCell'=true)->SWO (ltOf cf)->CmpLays P g #[] enc 5 cf blk off d.size w->HoldsK enc 5 w blk off d->blk<w.heap.size->d.size<4611686018427387904->
  Calls P fS #[.slice (some ⟨blk,off,none⟩) d.size c,.func (.func g) #[] #[]] w λe w'=>e=.returned (.tuple #[])/\∃n os,w'=sortWorldK enc 5 w blk off n (pdq (ltOf cf) d 0 d.size (Lib.bitLen d.size) true true) os
 none:∀(p:Ys)(c:Nat)(w:World),Calls P fS #[.slice p 0 c,.func (.func g) #[] #[]] w λe w'=>e=.returned (.tuple #[])/\w'=w
 cmp:∀(a b:Int)(a1 a2 a3 a4 b1 b2 b3 b4:Value)(W:World),(∀v∈[a1,a2,a3,a4,b1,b2,b3,b4],v.oneCell'=true)->
  Calls P g #[.agg #[.int .u64 a,a1,a2,a3,a4],.agg #[.int .u64 b,b1,b2,b3,b4]] W λe w'=>e=.returned (.int .i64 (Js a b))/\∃q os',w'=grow (W.drewN q) os'
 enters:∀args w,(callFunc fS args).run P w=.ok (.enter fS args) w
section
variable[iD]
def acj(k g:Nat):dV:=λargs J=>match args with
 |[.sv id n,.fn a [] []]=>match J.get id with
  |some (.vec b c f)=>
   if Nat.beq a g&&Nat.beq b n&&Nat.ble J.lock id then
    match gq (.call k [n] 0)with
    |some m=>match gq (.same n m)with
     |some d=>some (.fG [],J.put id (.vec d c f))
     |none=>none
    |none=>none
   else none
  |_=>none
 |_=>none
end
def aEB{ro:QP}{x:GV}{y:Value}(e:isTagged x=true)(h:GR ro x y):∃a b c d,y=.agg #[.int .u64 (Lh x),a,b,c,d]:=by
 unfold isTagged at e;split at e
 ·next t f g i j=>
  simp only[GR,aT]at h;obtain⟨k,rfl,m,n,rfl,rfl,a,l,rfl,_,b,o,rfl,_,c,p,rfl,_,d,q,rfl,_,rfl⟩:=h;exact⟨a,b,c,d,rfl⟩
 ·cases e
def ayn{ro:QP}{x:GV}{y:Value}(a:isTagged x=true)(h:GR ro x y)(b:x.cells.all GV.scalar=true):∀v∈y.cells.toList,v.oneCell'=true:=by
 unfold isTagged at a;split at a
 ·simp only[GR]at h;obtain⟨c,rfl,h⟩:=h;exact aT.ones h b
 ·cases a
def af5{b:Qt}{sz:Nat}(h0:0<sz)(h:∀y∈b,y.cells.size=sz){j:Nat}(e:j<b.length*sz):(dR b)[j]? =some ((b.getD (j/sz) undef).cells.toList.getD (j%sz) undef):=by
 letI:aJ:=Tg [] [] 0
 have c:j/sz<b.length:=(Nat.div_lt_iff_lt_mul h0).2 e;have a:j%sz<sz:=Nat.mod_lt _ h0;have d:=bV c;have:=af4 h d (j%sz) a;rw[show j/sz*sz+j%sz=j by rw[IW];exact Nat.div_add_mod j sz]at this;rw[this];have f:=h _ (gY c);rw[D8 ah];simp[List.getD,d,f,a]
def aDF{T:aJ}{fS g k:Nat}(Fx:ae1 P fS g)(hI:∀gs aa,T.I k gs=some aa->Tj gs=some aa):@dP T P fS (@acj T.toiD k g):=by
 letI:=T
 intro args J r J' D F w vs hS E;unfold acj at D;split at D;rotate_left
 ·cases D
 next ZK n g'=>
 split at D;rotate_left
 ·cases D
 next n0 et f B=>
 split at D;rotate_left
 ·cases D
 next S=>
 simp only[aO]at S;obtain⟨⟨c2,c3⟩,c6⟩:=S;have c2:=(bQ c2).symm;have c3:=(bQ c3).symm;have c6:=um c6;subst c2;subst c3;split at D;rotate_left
 ·cases D
 next m0 az=>
 split at D;rotate_left
 ·cases D
 next m hm=>
 cases D;obtain⟨x,bd,rfl,hx,aD⟩:=E;obtain⟨y,be,rfl,U,al⟩:=aD;simp only[aG]at al;subst al;simp only[VR,aG]at U;obtain⟨us,vs,rfl,rfl,rfl⟩:=U;simp only[VR]at hx;obtain⟨l,ab,hx⟩:=hx;obtain⟨g0,k1,k2⟩:=iq az;simp only[Nd.den,valsOf,ab]at k2;split at k2;rotate_left
 ·cases k2
 next aa am=>
 have M:=hI _ _ am;simp only[Tj]at M;split at M;rotate_left
 ·cases M
 next aE=>
 cases M;simp only[kQ,bf]at k2;subst k2;obtain⟨bc,W⟩:=aE;obtain⟨gm,m1,m2⟩:=iq hm;have aL:aJ.val m0=some (.l (xO l)):=k1;simp only[Nd.den,ab,aL]at m2;rw[au (Yi l)]at m2;simp only[bf]at m2;subst m2;have fin:∀{L:Env}{J2:aC}{w':World},St P F J w L J2 w'->∃L ,St P F J w L J2 w'/\VR L (.fG []) (.tuple #[]):=λh=>⟨_,h,by simp only[VR];exact⟨[],rfl,by simp[aG]⟩⟩
 rcases hx with⟨q,hq,bh,rfl⟩|⟨aM,an,rfl⟩
 rotate_left
 ·
   subst an;refine .inr ⟨Fx.enters _ w,Calls.mono' (Fx.none none 0 w) ?_⟩;rintro e w' ⟨rfl,hw⟩
   rw[hw];have aR:xO []=[]:=jT (Yi []);rw[aR]at m1;obtain⟨L,f1,f2⟩:=fin (St.alb (o':=.vec m et f) hS B rfl rfl (.inr ⟨aM,m,et,f,rfl,m1⟩));exact⟨_,rfl,L,f1,f2⟩
 have a0:=hS.at B hq;obtain⟨bi,cs,Jv,JA,s,o1,o2,o3,o4,o5,o6,N,o8,o9⟩:=a0;rw[ab]at o1;cases o1;have bj:s.length=l.length:=o3.length.symm;by_cases h2:l.length=0
 ·have a5:l=[]:=jT h2;have a6:xO l=l:=by rw[a5];exact jT (Yi [])
  rw[h2];refine .inr ⟨Fx.enters _ w,Calls.mono' (Fx.none _ _ w) ?_⟩;rintro e w' ⟨rfl,hw⟩
  rw[hw];obtain⟨L,f1,f2⟩:=fin (St.alb (o':=.vec m et f) hS B rfl rfl (.inl ⟨q,hq,l,cs,Jv,JA,s,by rw[m1,a6],o2,o3,o4,o5,o6,N,o8,o9⟩));exact⟨_,rfl,L,f1,f2⟩
 have X:∀i,i<s.length->∃a b c d,s.getD i undef=.agg #[.int .u64 (zH l i),a,b,c,d]:=by
  intro i hi;have z:l[i]? =some (l[i]'(by omega)):=bV _;obtain⟨y,G,H⟩:=o3.at z;have O:zH l i=Lh (l[i]'(by omega)):=by unfold zH;simp[List.getD,z]
  obtain⟨a,b,c,d,e⟩:=aEB (List.all_eq_true.1 W _ (gY ah)) H;exact⟨a,b,c,d,by simp only[List.getD,G,sH,e,O]⟩
 have Q:q.es=5:=by
  obtain⟨a,b,c,d,e⟩:=X 0 ah;have h0:s.getD 0 undef∈s:=by simp only[List.getD,bV (ah:0<s.length),sH];exact gY _
  have:=o4 _ h0;rw[e]at this;exact this.symm
 have ao:∀y∈s,y.cells.size=5:=λy U=>by rw[o4 y U,Q]
 let QK:Value:=.agg #[.int .u64 0,.bool false,.bool false,.bool false,.bool false]
 let p:Nat->List Value:=λi=>(s.getD i QK).cells.toList
 have ac:∀i,i<s.length->p i=(s.getD i undef).cells.toList:=by
  intro i hi;show(s.getD i QK).cells.toList=_
  simp[List.getD,bV hi]
 have ap:∀i,¬i<s.length->p i=[.int .u64 0,.bool false,.bool false,.bool false,.bool false]:=by
  intro i hi;show(s.getD i QK).cells.toList=_
  simp[List.getD,wV (ah:s.length<=i)];rfl
 have ad:∀i,∃a b c d,p i=[.int .u64 (zH l i),a,b,c,d]:=by
  intro i;by_cases hi:i<s.length
  ·obtain⟨a,b,c,d,e⟩:=X i hi;exact⟨a,b,c,d,by rw[ac i hi,e];rfl⟩
  ·refine⟨.bool false,.bool false,.bool false,.bool false,?_⟩;rw[ap i hi];have:zH l i=0:=by unfold zH;simp[List.getD,wV (ah:l.length<=i),Lh]
   rw[this]
 have ae:∀i,(p i).length=5:=by intro i;obtain⟨a,b,c,d,e⟩:=ad i;rw[e];rfl
 have I:∀i,∀v∈p i,v.oneCell'=true:=by
  intro i v E;by_cases hi:i<s.length
  ·rw[ac i hi]at E;have z:l[i]? =some (l[i]'(by omega)):=bV _;obtain⟨y,G,H⟩:=o3.at z;have:s.getD i undef=y:=by simp[List.getD,G]
   rw[this]at E;have af:=o8 _ (gY (ah:i<l.length));exact ayn (List.all_eq_true.1 W _ (gY ah)) H af v E
  ·rw[ap i hi]at E;simp only[bJ,IQ,or_false]at E;rcases E with rfl|rfl|rfl|rfl|rfl<;>rfl
 have a7:∀i,i<l.length->(Array.range l.length)[i]! =i:=by intro i hi;rw[getElem!_pos _ i (by simpa using hi)];simp
 have hH:HoldsK p 5 w q.bl q.ba (Array.range l.length):=by
  intro j hj;rw[size_flatK,aeh]at hj;rw[get_flatK _ _ _ _ (by rw[aeh];exact hj),a7 _ ah,ac _ ah];have h1:=o5 j _ (af5 ah ao ah);refine⟨?_,?_⟩
  ·simp only[World.cell?,o2];rw[aj aA,h1];have:((s.getD (j/5) undef).cells.toList).length=5:=by
    have h0:s.getD (j/5) undef∈s:=by simp only[List.getD,bV (ah:j/5<s.length),sH];exact gY _
    simpa using ao _ h0
   rw[getElem!_pos _ (j%5) ah];show some (((s.getD (j/5) undef).cells.toList)[j%5]?.getD undef)=some (((s.getD (j/5) undef).cells.toList)[j%5]'_)
   rw[bV (ah:j%5<((s.getD (j/5) undef).cells.toList).length)];rfl
  ·have aq:j<q.sz:=by rw[Q]at o6;omega
   have:=N.free rfl j aq;simp only[World.frozen?,o2];simpa using λh=>ah
 have ar:Array.size (Array.range l.length)=l.length:=aeh;have Y:q.bl<w.heap.size:=xF o2;have av:CmpLays P g #[] p 5 (CV l) q.bl q.ba (Array.range l.length).size w:=by
  intro mm os dk bk i j;obtain⟨a1,a2,a3,a4,e1⟩:=ad i;obtain⟨b1,b2,b3,b4,e2⟩:=ad j;have h1:=Fx.cmp (zH l i) (zH l j) a1 a2 a3 a4 b1 b2 b3 b4 (sortWorldK p 5 w q.bl q.ba mm dk os) (by
   intro v E;simp only[bJ,IQ,or_false]at E;have i1:=I i;have i2:=I j;rw[e1]at i1;rw[e2]at i2;rcases E with rfl|rfl|rfl|rfl|rfl|rfl|rfl|rfl
   ·exact i1 _ aA
   ·exact i1 _ aA
   ·exact i1 _ aA
   ·exact i1 _ aA
   ·exact i2 _ aA
   ·exact i2 _ aA
   ·exact i2 _ aA
   ·exact i2 _ aA)
  rw[e1,e2];exact h1
 have hc:=Fx.big p (CV l) q.bl q.ba (q.sz/q.es) (Array.range l.length) w ae I (adI l) av hH Y ah;rw[ar]at hc;refine .inr ⟨Fx.enters _ w,Calls.mono' hc ?_⟩;rintro e w' ⟨rfl,nn,os,rfl⟩
 have aw:pdq (ltOf (CV l)) (Array.range l.length) 0 l.length (Lib.bitLen l.length) true true=lq l:=by unfold lq;rw[ar]
 rw[aw];obtain⟨p1,p2⟩:=abn l;have ax:∀i∈(lq l).toList,i<l.length:=λi hi=>AO.1 (p2.mem_iff.1 hi);unfold sortWorldK;have ag:(grow (putRowK p 5 (Sort.ahead w nn) q.bl q.ba (lq l)) os).heap[q.bl]? =some (.cells (Go.Sort.putCells id q.ba (flatK p 5 (lq l)) cs) Jv JA):=by
  show((w.heap.modify q.bl (onCells (Go.Sort.putCells id q.ba (flatK p 5 (lq l)))))++os)[q.bl]? =_
  rw[YX (by simpa using Y),LK,au rfl,o2];rfl
 have A:∀Z,Z<w.heap.size->Z≠q.bl->(grow (putRowK p 5 (Sort.ahead w nn) q.bl q.ba (lq l)) os).heap[Z]? =w.heap[Z]?:=by
  intro Z h1 h2;show((w.heap.modify q.bl (onCells (Go.Sort.putCells id q.ba (flatK p 5 (lq l)))))++os)[Z]? =_
  rw[YX (by simpa using h1),LK,aj (λe=>h2 e.symm)]
 let t:Qt:=(lq l).toList.map λi=>s.getD i QK
 have ai:∀y∈t,y.cells.size=5:=by intro y U;obtain⟨i,hi,rfl⟩:=su.1 U;have:=ae i;simpa[p]using this
 have R:Gx (Go.Sort.putCells id q.ba (flatK p 5 (lq l)) cs) q.ba (dR t):=by
  intro u v ak;have bm:t.length=l.length:=by simp[t,p1]
  have a8:u<t.length*5:=by have:=(fV.1 ak).1;rwa [Gy ai]at this
  rw[af5 ah ai a8]at ak;cases ak;have aq:u<q.sz:=by rw[Q]at o6;omega
  have a9:q.ba+u<cs.size:=by have:=N.fits;omega
  unfold Go.Sort.putCells;rw[Array.getElem?_mapIdx,D8 a9];simp only[iH,size_flatK,p1];rw[au ⟨ah,ah⟩,Zg,get_flatK _ _ _ _ (by rw[p1];omega)];have O:u/5<(lq l).size:=ah;have e1:t.getD (u/5) undef=s.getD (lq l)[u/5]! QK:=by simp only[t,List.getD,iO];rw[getElem!_pos _ (u/5) O];simp[O]
  rw[e1];have e2:=ae (lq l)[u/5]!;show some (id ((p (lq l)[u/5]!)[u%5]!))=some ((p (lq l)[u/5]!).getD (u%5) undef)
  rw[getElem!_pos _ (u%5) ah];simp only[List.getD,bV (ah:u%5<(p (lq l)[u/5]!).length),sH,id]
 have ba:aT F.ro (xO l) t:=by unfold xO;refine aT.ofFn _ λi hi=>?_;have bb:=ax i hi;have z:l[i]? =some (l[i]'bb):=bV _;obtain⟨y,G,H⟩:=o3.at z;simp only[List.getD,z,G,sH];exact H
 have af:∀x∈xO l,x.cells.all GV.scalar=true:=λx hx=>o8 x ((adB l).mem_iff.1 hx)
 have s2:=St.ayg (ro':=F.ro) (o':=.vec m et f) (w':=grow (putRowK p 5 (Sort.ahead w nn) q.bl q.ba (lq l)) os) hS B rfl rfl c6 hq
  ⟨⟨rfl,rfl,rfl,by simp[putRowK],λZ h1 h2=>A Z h1 h2⟩,λ_ _ h=>h,λb hb=>.inl hb,λb o hb=>by have ay:=hS.jl b o hb;rw[A b (xF ay) (λe=>by subst e;rw[hS.lU ZK _ q B rfl hq]at hb;cases hb)];exact ay,hS.lU ZK _ q B rfl hq⟩
  ⟨xO l,_,Jv,JA,t,m1,ag,ba,λy U=>by rw[ai y U,Q],R,by rw[Yi];exact o6,
   {fits:=by simpa[Go.Sort.putCells]using N.fits,le:=N.le,shut:=N.shut,cell:=λu a hk=>by simp at hk,free:=N.free,whole:=λh=>by obtain⟨a1,a2,a3⟩:=N.whole h;exact⟨a1,by simpa[Go.Sort.putCells]using a2,a3⟩,room:=N.room},af,o9⟩
 obtain⟨L,f1,f2⟩:=fin s2;exact⟨_,rfl,L,f1,f2⟩
