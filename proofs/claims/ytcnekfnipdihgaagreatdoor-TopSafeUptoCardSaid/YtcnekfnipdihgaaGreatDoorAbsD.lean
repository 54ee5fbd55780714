/- Values that are named by nodes: numbers, texts, truth values, parts of what nobody changes. -/
import Derived.Test.YtcnekfnipdihgaaGreatDoorAbsC
import Derived.Laws.StructEq
set_option linter.all false
namespace Go.aP
noncomputable section
variable[aJ]
variable{P:Program}{F:Env}{J J':aC}{w:World}
mutual
def lT:GV->AV
 |.b x=>.b x
 |.i k n=>.i k n
 |.s x=>.s x
 |.g cs=>.agg (eP cs)
 |.l xs=>.ro (eP xs)
def eP:Q3->List AV
 |[]=>[]
 |a::l=>lT a::eP l
end
def yD:∀l:Q3,eP l=l.map lT
 |[]=>rfl
 |a::l=>by simp[eP,yD l]
def nS(l:Q3):(eP l).length=l.length:=by rw[yD];simp
def Q5(l:Q3)(k:Nat):(eP l)[k]? =(l[k]?).map lT:=by rw[yD];simp
mutual
def mQ:∀(g:GV)(v:Value),GR F.ro g v↔VR F (lT g) v
 |.b _,_=>by simp only[GR,VR,lT]
 |.i _ _,_=>by simp only[GR,VR,lT]
 |.s _,_=>by simp only[GR,VR,lT]
 |.g cs,v=>by
  simp only[GR,VR,lT];constructor
  ·rintro⟨vs,e,h⟩;exact⟨vs,e,(qC cs vs).1 h⟩
  ·rintro⟨vs,e,h⟩;exact⟨vs,e,(qC cs vs).2 h⟩
 |.l xs,v=>by
  simp only[GR,VR,lT,nS];have f:eP xs=[]↔xs=[]:=by cases xs<;>simp[eP]
  rw[f];constructor
  ·rintro(h|⟨i,a,c,d,j,e,k,h,l,m⟩)
   ·exact .inl h
   ·exact .inr ⟨i,a,c,d,j,e,k,(qC xs d).1 h,l,λb=>m (λe=>b (f.2 e))⟩
  ·rintro(h|⟨i,a,c,d,j,e,k,h,l,m⟩)
   ·exact .inl h
   ·exact .inr ⟨i,a,c,d,j,e,k,(qC xs d).2 h,l,λb=>m (λe=>b (f.1 e))⟩
def qC:∀(l:Q3)(vs:Qt),aT F.ro l vs↔aG F (eP l) vs
 |[],_=>by simp only[aT,aG,eP]
 |a::l,vs=>by
  simp only[aT,aG,eP];constructor
  ·rintro⟨x,xs,e,h1,b⟩;exact⟨x,xs,e,(mQ a x).1 h1,(qC l xs).1 b⟩
  ·rintro⟨x,xs,e,h1,b⟩;exact⟨x,xs,e,(mQ a x).2 h1,(qC l xs).2 b⟩
end
def NP(g:GV):(lT g).cells=eP g.cells:=by cases g<;>simp[lT,eP,AV.cells,GV.cells]
def aaU:∀l:Q3,(eP l).flatMap AV.cells=eP (l.flatMap GV.cells)
 |[]=>rfl
 |a::l=>by simp only[eP,kP,aaU l,NP];rw[yD,yD,yD,nP]
def GR.cells{g:GV}{v:Value}(h:GR F.ro g v):aG F (eP g.cells) v.cells.toList:=by rw[<-NP];exact Bc ((mQ g v).1 h)
def GR.ZY{g:GV}{v:Value}(h:GR F.ro g v):g.cells.length=v.cells.size:=by have:=h.cells.length;rw[nS]at this;simpa using this
def GV.KX{g:GV}(h:g.scalar=true):g.cells=[g]:=by cases g<;>first|rfl|(cases h)
def au8{g:GV}(h:g.scalar=true):(lT g).pF=true:=by cases g<;>first|rfl|(cases h)
def aaV:∀{l:Q3},l.all GV.scalar=true->(eP l).all AV.pF=true
 |[],_=>rfl
 |a::l,h=>by simp only[qZ,aO]at h;simp only[eP,qZ,aO];exact⟨au8 h.1,aaV h.2⟩
def aT.length{ro:QP}:∀{l:Q3}{vs:Qt},aT ro l vs->l.length=vs.length
 |[],vs,h=>by simp only[aT]at h;subst h;rfl
 |a::l,vs,h=>by simp only[aT]at h;obtain⟨x,xs,rfl,_,b⟩:=h;simp[aT.length b]
def aT.at{ro:QP}:∀{l:Q3}{vs:Qt},aT ro l vs->∀{k:Nat}{a:GV},l[k]? =some a->∃x,vs[k]? =some x/\GR ro a x
 |[],vs,h,k,a,c=>by simp at c
 |b::l,vs,h,k,a,c=>by
  simp only[aT]at h;obtain⟨x,xs,rfl,h1,d⟩:=h;cases k with
  |zero=>simp at c;subst c;exact⟨x,aA,h1⟩
  |succ k=>obtain⟨y,e,f⟩:=aT.at d (by simpa using c);exact⟨y,by simpa using e,f⟩
def iq{x:Nd}{n:Nat}(h:gq x=some n):∃g,aJ.val n=some g/\x.den aJ.I aJ.val=some g:=by obtain⟨a,b⟩:=atT h;exact aJ.tH n x a b
def apl{m f:Nat}(h:aan m f=true):(∃k a b,aJ.val m=some (.i k a)/\aJ.val f=some (.i k b)/\a≠b)\/(∃a b,aJ.val m=some (.s a)/\aJ.val f=some (.s b)/\a≠b):=by
 unfold aan at h;split at h
 ·next k a q b i j=>
  rw[aO]at h;have:=WU h.1;subst this;obtain⟨g,n,c⟩:=aJ.tH _ _ i aA;obtain⟨p,o,d⟩:=aJ.tH _ _ j aA;simp only[Nd.den,bf]at c d;subst c;subst d;refine .inl ⟨k,a,b,n,o,λe=>?_⟩;subst e;rw[(aiF (a:=a) (b:=a)).2 rfl]at h;simp at h
 ·next a b i j=>
  obtain⟨g,n,c⟩:=aJ.tH _ _ i aA;obtain⟨p,o,d⟩:=aJ.tH _ _ j aA;simp only[Nd.den,bf]at c d;subst c;subst d;refine .inr ⟨a,b,n,o,λe=>?_⟩;subst e;rw[(afN (l:=a) (m:=a)).2 rfl]at h;simp at h
 ·cases h
def abV{n m:Nat}:∀{l:Wm},(∀p∈l,aJ.val p.1=some (.b p.2))->H9 n m l=true->(∃k a b,aJ.val n=some (.i k b)/\aJ.val m=some (.i k a)/\a≠b)\/(∃a b,aJ.val n=some (.s b)/\aJ.val m=some (.s a)/\a≠b)
 |[],_,h=>by simp[H9]at h
 |p::l,s,h=>by
  simp only[H9,oV]at h;rcases h with h|h
  ·cases d:p.2 with
   |false=>rw[d]at h;simp at h
   |true=>
    rw[d]at h;simp only[cond_true]at h;split at h
    ·next B D u=>
     rw[aO]at h;have e:=bQ h.1;subst e;obtain⟨g,v,c⟩:=aJ.tH _ _ u aA;have t:=s p aA;rw[d,v]at t;cases t;simp only[Nd.den]at c;rcases apl h.2 with⟨k,a,b,f,i,j⟩|⟨a,b,f,i,j⟩
     ·rw[i]at c;split at c
      ·next x y o r=>
       cases r;cases x<;>simp only[iV,dh,reduceCtorEq]at c
       split at c
       ·next z=>
        subst z;simp only[bf,GV.b.injEq,beq_iff_eq]at c;subst c;exact .inl ⟨_,a,_,o,f,j⟩
       ·cases c
      ·cases c
     ·rw[i]at c;split at c
      ·next x y o r=>
       cases r;cases x<;>simp only[iV,yO,reduceCtorEq]at c
       simp only[bf,GV.b.injEq,beq_iff_eq]at c;subst c;exact .inr ⟨a,_,o,f,j⟩
      ·cases c
    ·cases h
  ·exact abV (λq A=>s q (by simp[A])) h
def agh{c n m:Nat}{b:Bool}:∀{l:Wm},(∀p∈l,aJ.val p.1=some (.b p.2))->Nq c n m l=some b->∃d x y,xI d=c/\aJ.val n=some x/\aJ.val m=some y/\iV d x y=some (.b b)
 |[],_,h=>by simp[Nq]at h
 |p::l,f,h=>by
  have i:=λh=>agh (c:=c) (n:=n) (m:=m) (b:=b) (l:=l) (λq k=>f q (by simp[k])) h;simp only[Nq]at h;split at h
  ·next d o r s=>
   cases a:Nat.beq n o&&Nat.beq m r&&Nat.beq (xI d) c with
   |false=>rw[a]at h;exact i h
   |true=>
    rw[a]at h;simp only[cond_true,bf]at h;rw[aO,aO]at a;have t:=bQ a.1.1;have u:=bQ a.1.2;have v:=bQ a.2;subst t;subst u;obtain⟨g,z,e⟩:=aJ.tH _ _ s aA;have j:=f p aA;rw[z,h]at j;cases j;simp only[Nd.den]at e;split at e
    ·next x y A B=>exact⟨d,x,y,v,A,B,e⟩
    ·cases e
  ·exact i h
def apk{f c:BinOp}{x y g:GV}{r:Bool}(h:GI f=some c)(h1:iV c x y=some (.b r))(d:iV f x y=some g):g=.b (!r):=by
 cases x with
 |i k a=>
  cases y with
  |i j b=>
   by_cases e:k=j
   ·subst e;unfold GI at h;split at h<;>cases h<;>simp only[iV,dh,if_true,bf,GV.b.injEq]at h1 d<;>rw[<-h1,<-d]<;>congr 1<;>rw[yR]<;>simp<;>omega
   ·unfold GI at h;split at h<;>cases h<;>simp only[iV,aj e]at h1<;>cases h1
  |_=>unfold GI at h;split at h<;>cases h<;>simp[iV]at h1
 |s a=>
  cases y with
  |s b=>unfold GI at h;split at h<;>cases h<;>simp only[iV,yO,bf,GV.b.injEq]at h1 d<;>rw[<-h1,<-d]<;>simp
  |_=>unfold GI at h;split at h<;>cases h<;>simp[iV]at h1
 |_=>unfold GI at h;split at h<;>cases h<;>simp[iV]at h1
def adn{a:BinOp}{n m:Nat}{b:Bool}{g:GV}(h:SX a n m=some b)(c:(Nd.bin a n m).den aJ.I aJ.val=some g):g=.b b:=by
 unfold SX at h;split at h
 ·next d f=>
  obtain⟨r,i,rfl⟩:=bG.1 h;obtain⟨j,x,y,e,k,l,o⟩:=agh (λp q=>aJ.CX p.1 p.2 q) i;have:=aj6.1 e;subst this;simp only[Nd.den,k,l]at c;exact apk f o c
 ·cases h
def aAU{x:Nd}{b:Bool}{g:GV}(h:ado x=some b)(c:x.den aJ.I aJ.val=some g):g=.b b:=by
 unfold ado at h;split at h
 ·next n m=>
  cases d:H9 n m iD.dec with
  |false=>rw[d]at h;simp only[cond_false]at h;exact adn h c
  |true=>
   rw[d]at h;cases h;rcases abV (λp j=>aJ.CX p.1 p.2 j) d with⟨k,a,b,e,f,i⟩|⟨a,b,e,f,i⟩
   ·simp only[Nd.den,e,f,iV,dh,if_true,bf]at c;rw[<-c];simp[Ne.symm i]
   ·simp only[Nd.den,e,f,iV,yO,bf]at c;rw[<-c];simp[Ne.symm i]
 ·next n m=>
  cases d:H9 n m iD.dec with
  |false=>rw[d]at h;simp only[cond_false]at h;exact adn h c
  |true=>
   rw[d]at h;cases h;rcases abV (λp j=>aJ.CX p.1 p.2 j) d with⟨k,a,b,e,f,i⟩|⟨a,b,e,f,i⟩
   ·simp only[Nd.den,e,f,iV,dh,if_true,bf]at c;rw[<-c];simp[Ne.symm i]
   ·simp only[Nd.den,e,f,iV,yO,bf]at c;rw[<-c];simp[Ne.symm i]
 ·exact adn h c
 ·cases h
def oz{x:Nd}{r:AV}(h:lI x=some r):∃n g,aJ.val n=some g/\x.den aJ.I aJ.val=some g/\∀v,g.scalar=true->GR F.ro g v->VR F r v:=by
 unfold lI at h;split at h
 ·next n f=>
  obtain⟨g,c,e⟩:=iq f;refine⟨n,g,c,e,λv i a=>?_⟩;split at h
  ·next b d=>
   cases h;have:=aJ.CX n b (QJ d);rw[c]at this;cases this;simp only[GR]at a;simp only[VR];exact a
  ·split at h
   ·next b d=>
    cases h;have:=aAU d e;subst this;simp only[GR]at a;simp only[VR];exact a
   ·cases h;simp only[VR];exact⟨g,c,i,a⟩
 ·cases h
def Jt{a:Qf}{r:AV}(h:dB a=some r):∃v,a=some v/\∀(F:Env)(x:Value),VR F v x->VR F r x:=by
 unfold dB at h;split at h
 ·next n=>
  split at h
  ·next b f=>
   cases h;refine⟨_,rfl,λF x c=>?_⟩;have i:=aJ.CX n b (QJ f);simp only[VR]at c;obtain⟨g,d,_,e⟩:=c;rw[i]at d;cases d;simp only[GR]at e;subst e;simp only[VR]
  ·cases h
 ·exact⟨r,h,λ_ _ h=>h⟩
def nK{a:AV}{n:Nat}{v:Value}(h:jy a=some n)(e:VR F a v):∃g,aJ.val n=some g/\g.scalar=true/\GR F.ro g v:=by
 cases a<;>simp only[jy,reduceCtorEq,bf]at h
 case nd m=>subst h;simpa only[VR]using e
 case i k m=>obtain⟨g,d,c⟩:=iq h;simp only[Nd.den,bf]at c;subst c;exact⟨_,d,rfl,by simpa only[VR,GR]using e⟩
 case b x=>obtain⟨g,d,c⟩:=iq h;simp only[Nd.den,bf]at c;subst c;exact⟨_,d,rfl,by simpa only[VR,GR]using e⟩
 case s x=>obtain⟨g,d,c⟩:=iq h;simp only[Nd.den,bf]at c;subst c;exact⟨_,d,rfl,by simpa only[VR,GR]using e⟩
 case gX=>obtain⟨g,d,c⟩:=iq h;simp only[Nd.den,valsOf,iH,bf]at c;subst c;exact⟨_,d,rfl,by simp only[VR]at e;simp only[GR];exact .inl ⟨trivial,_,e⟩⟩
def Xx:∀{l:Q6}{c:Q4}{vs:Qt},nodesOf l=some c->aG F l vs->∃gs,valsOf aJ.val c=some gs/\gs.all GV.scalar=true/\aT F.ro gs vs
 |[],c,vs,h,b=>by simp only[nodesOf,bf]at h;subst h;simp only[aG]at b;subst b;exact⟨[],rfl,rfl,by simp[aT]⟩
 |a::l,c,vs,h,b=>by
  simp only[nodesOf]at h;split at h
  ·next n r d e=>
   cases h;simp only[aG]at b;obtain⟨x,xs,rfl,h1,f⟩:=b;obtain⟨g,i,j,k⟩:=nK d h1;obtain⟨gs,m,o,p⟩:=Xx e f;exact⟨g::gs,by simp only[valsOf,i,m],by simp[j,o],by simp only[aT];exact⟨x,xs,rfl,k,p⟩⟩
  ·cases h
def MO{a:AV}{n:Nat}{v:Value}(h:Gj a=some n)(d:VR F a v):∃l gs,a=.agg l/\gs.length=l.length/\aJ.val n=some (.g gs)/\gs.all GV.scalar=true/\GR F.ro (.g gs) v:=by
 unfold Gj at h;split at h
 ·next l=>
  split at h
  ·next o c=>
   simp only[VR]at d;obtain⟨j,rfl,b⟩:=d;obtain⟨gs,k,e,f⟩:=Xx c b;obtain⟨g,m,i⟩:=iq h;simp only[Nd.den,k,e,if_true,bf]at i;subst i;exact⟨l,gs,rfl,by rw[f.length,b.length],m,e,by simp only[GR];exact⟨j,rfl,f⟩⟩
  ·cases h
 ·cases h
def aBq{c:BinOp}{t:TypeId}{x y:Operand}{k d:IntKind}{a b:Int}{w:World}:(eqGuard c t x y (.int k a) (.int d b)).run P w=.ok () w:=by unfold eqGuard;cases c<;>rfl
def aBr{c:BinOp}{t:TypeId}{x y:Operand}{a b:ByteArray}{w:World}:(eqGuard c t x y (.string a) (.string b)).run P w=.ok () w:=by unfold eqGuard;cases c<;>rfl
def awi{c:BinOp}{t:TypeId}{k:IntKind}{a b:Int}{g:GV}(h1:c≠.shl)(d:c≠.shr)(h:dh c k a b=some g):g.scalar=true/\∃z,(binOp c t (.int k a) (.int k b)).run P w=.ok z w/\GR F.ro g z:=by
 cases c<;>simp only[dh,reduceCtorEq]at h
 all_goals first|(exact absurd rfl h1)|(exact absurd rfl d)|(cases h;done)|skip
 all_goals first
  |(cases h;refine⟨rfl,?_⟩;simp only[binOp,ne_eq,not_true_eq_false,if_false,Op.intArith,Op.intCmp,Op.intBits];exact⟨_,rfl,by simp only[GR]⟩)
  |(split at h;cases h;cases h;next e=>refine⟨rfl,?_⟩;simp only[binOp,ne_eq,not_true_eq_false,if_false,Op.intDiv,e];exact⟨_,rfl,by simp only[GR]⟩)
def alO{c:BinOp}{t:TypeId}{k e:IntKind}{a b:Int}{g:GV}(f:c=.shl\/c=.shr)(h:kM c k a b=some g):g.scalar=true/\∃z,(binOp c t (.int k a) (.int e b)).run P w=.ok z w/\GR F.ro g z:=by
 unfold kM at h;split at h
 ·cases h
 ·next d=>
  rcases f with rfl|rfl
  ·cases h;refine⟨rfl,?_⟩;simp only[binOp,Op.shift,aj d];exact⟨_,rfl,by simp only[GR]⟩
  ·cases h;refine⟨rfl,?_⟩;simp only[binOp,Op.shift,aj d];exact⟨_,rfl,by simp only[GR]⟩
def aEd{c:BinOp}{t:TypeId}{a b:Q2}{g:GV}(h:yO c a b=some g):g.scalar=true/\∃z,(binOp c t (.string ⟨⟨a⟩⟩) (.string ⟨⟨b⟩⟩)).run P w=.ok z w/\GR F.ro g z:=by
 cases c<;>simp only[yO,reduceCtorEq]at h
 all_goals first|(cases h;done)|skip
 all_goals first|(cases h;refine⟨rfl,?_⟩;simp only[binOp,Op.stringOp,toList_mk];exact⟨_,rfl,by simp only[GR]⟩)|skip
 split at h
 ·next d=>
  cases h;have:¬(((⟨⟨a⟩⟩:ByteArray).size+(⟨⟨b⟩⟩:ByteArray).size:Nat):Int)>IntKind.i64.max:=by rw[strSize,strSize];omega
  refine⟨rfl,?_⟩;simp only[binOp,Op.stringOp,aj this,afm];exact⟨_,rfl,by simp only[GR]⟩
 ·cases h
def anZ{d:BinOp}{t:TypeId}{x y:Operand}{j l g:GV}{u e:Value}(h:iV d j l=some g)(h1:GR F.ro j u)(c:GR F.ro l e):
 g.scalar=true/\∃z,(do eqGuard d t x y u e;binOp d t u e:Sem Value).run P w=.ok z w/\GR F.ro g z:=by
 unfold iV at h;split at h
 ·next k a n b=>
  simp only[GR]at h1 c;subst h1;subst c;simp only[aY,aBq,aX];split at h
  ·exact alO (.inl rfl) h
  ·exact alO (.inr rfl) h
  ·next f i=>
   split at h
   ·next m=>subst m;exact awi f i h
   ·cases h
 ·next a b=>
  simp only[GR]at h1 c;subst h1;subst c;simp only[aY,aBr,aX];exact aEd h
 ·cases h
def ag9{t:TypeId}(c:P.underlying t=some .bool)(a b:Bool):(Op.equal t (.bool a) (.bool b)).run P w=.ok (a==b) w:=by
 have H:∀n,(Op.equalIn (n+1) t (.bool a) (.bool b)).run P w=.ok (a==b) w:=λn=>by simp only[Op.equalIn,aY,bD c,aX,bP]
 exact H 9999
def anX{c:BinOp}{t:TypeId}{x y:Operand}{e f g:GV}{u d:Value}(i:P.underlying t=some .bool)(h:U2 c e f=some g)(h1:GR F.ro e u)(j:GR F.ro f d):
 g.scalar=true/\∃z,(do eqGuard c t x y u d;binOp c t u d:Sem Value).run P w=.ok z w/\GR F.ro g z:=by
 unfold U2 at h;split at h
 ·next a b=>
  simp only[GR]at h1 j;subst h1;subst j;split at h
  ·cases h;exact⟨rfl,_,uw (ag9 i a b) rfl rfl,by simp only[GR]⟩
  ·cases h;exact⟨rfl,_,uy (ag9 i a b) rfl rfl,by simp only[GR]⟩
  ·cases h
 ·cases h
def aha{w:World}(d:Nat):∀(fs:List Field)(k:Nat)(D:Q4)(xs p:Qt)(gs m:Q3)(r:Bool),Oz P fs k=some D->aT F.ro gs (xs.drop k)->aT F.ro m (p.drop k)->oM D gs m=some r->
 (Op.eqFields (d+1) ⟨xs⟩ ⟨p⟩ fs).run P w=.ok r w
 |[],k,D,xs,p,gs,m,r,n,_,_,c=>by
  simp only[Oz,bf]at n;subst n;cases gs with
  |cons g gs=>simp[oM]at c
  |nil=>
   cases m with
   |cons g gs=>simp[oM]at c
   |nil=>simp only[oM,bf]at c;subst c;simp[Op.eqFields]
 |f::fs,k,D,xs,p,gs,m,r,n,W,X,c=>by
  simp only[Oz]at n;split at n
  ·next Y=>
   rw[aO,wU]at Y;obtain⟨Z,ho⟩:=Y;have G:=bQ ho;split at n
   ·next a t o H=>
    cases n;cases gs with
    |nil=>simp[oM]at c
    |cons g gs=>
    cases m with
    |nil=>simp[oM]at c
    |cons I m=>
    simp only[aT]at W X;obtain⟨u,us,v,s,L⟩:=W;obtain⟨u',M,x,j,N⟩:=X;have O:xs[k]? =some u:=by rw[<-List.head?_drop,v];rfl
    have Q:p[k]? =some u':=by rw[<-List.head?_drop,x];rfl
    have R:us=xs.drop (k+1):=by have:=uD (List.drop 1) v;simpa[rZ]using this.symm
    have S:M=p.drop (k+1):=by have:=uD (List.drop 1) x;simpa[rZ]using this.symm
    have y:pG P f.type=some false:=by unfold acX at o;unfold pG;split at o<;>first|(next h=>rw[h])|(cases o)
    have l:∀(E:Qt) z,E[k]? =some z->(part f.type ⟨E⟩ f.offset).run P w=.ok z w:=by
     intro E z hz;unfold part;simp only[aY,KW y,aX,iJ,if_false];have:(⟨E⟩:W2)[f.offset]? =some z:=by rw[G];simpa using hz
     simp only[this,bP]
    have T:(f.name ≠ "_"):=by intro e;rw[e]at Z;simp at Z
    have fin:∀b q,(Op.equalIn (d+1) f.type u u').run P w=.ok b w->oM t gs m=some q->(Op.eqFields (d+1) ⟨xs⟩ ⟨p⟩ (f::fs)).run P w=.ok (b&&q) w:=by
     intro b q hb i;have A:=aha (w:=w) d fs (k+1) t xs p gs m q H (by rw[<-R];exact L) (by rw[<-S];exact N) i;simp only[Op.eqFields,au T,aY,l _ _ O,l _ _ Q,aX,hb];cases b with
     |true=>simpa using A
     |false=>simp
    unfold acX at o;split at o
    ·next kk B=>
     cases o;cases g<;>cases I<;>simp only[oM,reduceCtorEq]at c
     split at c
     ·next U=>
      subst U;obtain⟨q,i,rfl⟩:=bG.1 c;simp only[GR]at s j;subst s;subst j;exact fin _ _ (run_equalIn_int w d _ _ _ _ _ B) i
     ·cases c
    ·next B=>
     cases o;cases g<;>cases I<;>simp only[oM,reduceCtorEq]at c
     obtain⟨q,i,rfl⟩:=bG.1 c;simp only[GR]at s j;subst s;subst j;refine fin _ _ ?_ i;rw[run_equalIn_string w d _ _ _ B,toList_mk,toList_mk]
    ·next B=>
     cases o;cases g<;>cases I<;>simp only[oM,reduceCtorEq]at c
     obtain⟨q,i,rfl⟩:=bG.1 c;simp only[GR]at s j;subst s;subst j;exact fin _ _ (run_equalIn_bool' w d _ _ _ B) i
    ·cases o
   ·cases n
  ·cases n
def anY{k:BinOp}{t:TypeId}{x y:Operand}{fs:Array Field}{i:Q4}{o p g:GV}{u l:Value}(q:P.underlying t=some (.struct fs))(m:P.stoodInHeld t=false)(c:P.eqGuardType P.depth t=false)(A:Oz P fs.toList 0=some i)
 (h:MW k i o p=some g) (h1:GR F.ro o u) (j:GR F.ro p l):
 g.scalar=true/\∃z,(do eqGuard k t x y u l;binOp k t u l:Sem Value).run P w=.ok z w/\GR F.ro g z:=by
 unfold MW at h;split at h
 ·next a b=>
  simp only[GR]at h1 j;obtain⟨s,rfl,h1⟩:=h1;obtain⟨v,rfl,j⟩:=j;have d:P.fieldsOf t=fs:=by unfold Program.fieldsOf;rw[q]
  have n:P.underlying t=some (.struct (P.fieldsOf t)):=by rw[d];exact q
  have e:∀r,oM i a b=some r->(Op.equalIn 10000 t (.agg ⟨s⟩) (.agg ⟨v⟩)).run P w=.ok r w:=by intro r f;rw[run_equalIn_agg w 9999 t _ _ n m,d];exact aha (F:=F) 9998 fs.toList 0 i s v a b r A (by simpa using h1) (by simpa using j) f
  split at h
  ·obtain⟨r,f,rfl⟩:=bG.1 h;refine⟨rfl,.bool r,?_,by simp only[GR]⟩;simp only[aY,run_eqGuard_agg w .eql t x y _ _ c,aX,run_eql_struct,e r f]
  ·obtain⟨r,f,rfl⟩:=bG.1 h;refine⟨rfl,.bool (!r),?_,by simp only[GR]⟩;simp only[aY,run_eqGuard_agg w .neq t x y _ _ c,aX,run_neq_struct,e r f]
  ·cases h
 ·cases h
def aEk{p:BinOp}{t:TypeId}{x y:Operand}{a b v:AV}{u r:Value}(c:Yq P p t a b=some v)(f:VR F a u)(j:VR F b r):
 ∃z,(do eqGuard p t x y u r;binOp p t u r:Sem Value).run P w=.ok z w/\VR F v z:=by
 unfold Yq at c
 have B:∀{m n:Nat}{Q:Nd},lI Q=some v->(∀g,Q.den aJ.I aJ.val=some g->g.scalar=true/\∃z,(do eqGuard p t x y u r;binOp p t u r:Sem Value).run P w=.ok z w/\GR F.ro g z)->
  ∃z,(do eqGuard p t x y u r;binOp p t u r:Sem Value).run P w=.ok z w/\VR F v z:=by
  intro m n Q D Z;obtain⟨_,g,_,h2,h3⟩:=oz (F:=F) D;obtain⟨h4,z,h5,h6⟩:=Z g h2;exact⟨z,h5,h3 z h4 h6⟩
 have E:(match jy a,jy b with|some x,some y=>lI (.bin p x y)|_,_=>none)=some v->∃z,(do eqGuard p t x y u r;binOp p t u r:Sem Value).run P w=.ok z w/\VR F v z:=by
  intro c;split at c
  ·next m n D G=>
   obtain⟨T,H,U,I⟩:=nK D f;obtain⟨W,L,X,M⟩:=nK G j;refine B (m:=m) (n:=n) c λg s=>?_;simp only[Nd.den,H,L]at s;exact anZ s I M
  ·cases c
 split at c
 ·exact E c
 ·exact E c
 ·next d=>
  split at c
  ·next m n D G=>
   obtain⟨T,H,U,I⟩:=nK D f;obtain⟨W,L,X,M⟩:=nK G j;refine B (m:=m) (n:=n) c λg s=>?_;simp only[Nd.den,H,L]at s;exact anX d s I M
  ·cases c
 ·next fs d=>
  split at c
  ·next R=>
   rw[aO,wU,wU]at R;split at c
   ·next ks m n S D G=>
    obtain⟨l1,T,_,_,H,U,I⟩:=MO D f;obtain⟨l2,W,_,_,L,X,M⟩:=MO G j;refine B (m:=m) (n:=n) c λg s=>?_;simp only[Nd.den,H,L]at s;exact anY d R.1 R.2 S s I M
   ·cases c
  ·cases c
 ·next e d=>
  have N:∀{m l:Nat}{u:Value},VR F (.rx m l) u->∃o,u=.pointer (some o):=by intro m l u h;simp only[VR]at h;obtain⟨g,bl,base,cs,Y,fr,y,_,_,_,rfl,_⟩:=h;exact⟨_,rfl⟩
  have O:∀{id m l:Nat}{u:Value},VR F (.pv id m l) u->∃o,u=.pointer (some o):=by intro id m l u h;simp only[VR]at h;obtain⟨q,k,i,_,_,rfl⟩:=h;exact⟨_,rfl⟩
  have A:∀{u:Value},VR F .kC u->u=.pointer none:=by intro u h;simpa only[VR]using h
  split at c<;>cases c
  ·obtain⟨o,rfl⟩:=N f;have:=A j;subst this;exact⟨_,uw (GY d _) rfl rfl,by simp only[VR]⟩
  ·obtain⟨o,rfl⟩:=N j;have:=A f;subst this;exact⟨_,uw (GX d _) rfl rfl,by simp only[VR]⟩
  ·obtain⟨o,rfl⟩:=N f;have:=A j;subst this;exact⟨_,uy (GY d _) rfl rfl,by simp only[VR];rfl⟩
  ·obtain⟨o,rfl⟩:=N j;have:=A f;subst this;exact⟨_,uy (GX d _) rfl rfl,by simp only[VR];rfl⟩
  ·obtain⟨o,rfl⟩:=O f;have:=A j;subst this;exact⟨_,uw (GY d _) rfl rfl,by simp only[VR]⟩
  ·obtain⟨o,rfl⟩:=O j;have:=A f;subst this;exact⟨_,uw (GX d _) rfl rfl,by simp only[VR]⟩
  ·obtain⟨o,rfl⟩:=O f;have:=A j;subst this;exact⟨_,uy (GY d _) rfl rfl,by simp only[VR];rfl⟩
  ·obtain⟨o,rfl⟩:=O j;have:=A f;subst this;exact⟨_,uy (GX d _) rfl rfl,by simp only[VR];rfl⟩
 ·cases c
def aE2{b:UnOp}{g a:GV}{u:Value}(h:Lp b g=some a)(h1:GR F.ro g u):a.scalar=true/\∃z,(Op.unary b u).run P w=.ok z w/\GR F.ro a z:=by
 unfold Lp at h;split at h
 ·simp only[GR]at h1;subst h1;split at h
  ·cases h;exact⟨rfl,_,rfl,by simp only[GR]⟩
  ·cases h
 ·simp only[GR]at h1;subst h1;split at h
  ·cases h;exact⟨rfl,_,rfl,by simp only[GR]⟩
  ·simp only[dh,bf]at h;subst h;exact⟨rfl,_,rfl,by simp only[GR]⟩
  ·cases h
 ·cases h
def aEw{c:UnOp}{a v:AV}{u:Value}(b:O6 c a=some v)(d:VR F a u):∃z,(Op.unary c u).run P w=.ok z w/\VR F v z:=by
 unfold O6 at b;split at b
 ·next n=>
  obtain⟨_,g,_,e,f⟩:=oz (F:=F) b;simp only[VR]at d;obtain⟨g0,h,m,i⟩:=d;simp only[Nd.den,h]at e;obtain⟨j,z,k,l⟩:=aE2 (P:=P) (w:=w) e i;exact⟨z,k,f z j l⟩
 ·cases b
def SR.swap(h:SR P F J w){id:Nat}{o o':bM}(n:J.get id=some o)(p:o'.own=o.own)(r:Live P F w id o'):SR P F (J.put id o') w:=by
 have b:∀k u,(J.put id o').get k=some u->∃c,J.get k=some c/\u.own=c.own:=by
  intro k u a;rw[aC.get_put]at a;split at a
  ·next e=>cases a;subst e;exact⟨o,n,p⟩
  ·exact⟨u,a,rfl⟩
 refine⟨h.nR,h.dom,λk u a=>?_,h.kH,λk u m c q s d f g i t x=>?_,h.jl,λk u q d f g=>?_,h.tabs⟩
 ·rw[aC.get_put]at a;split at a
  ·next e=>cases a;subst e;exact r
  ·exact h.live k u a
 ·obtain⟨v,j,l⟩:=b k u d;obtain⟨y,z,A⟩:=b m c g;exact h.sep k v m y q s j (l▸f) z i t x
 ·obtain⟨v,j,l⟩:=b k u d;exact h.lU k v q j (l▸f) g
def St.left{F':Env}{τ:aC}{w':World}(h:St P F τ w F' J' w')(a:τ.lock=J.lock)(z:τ.next=J.next)(f:∀k u,τ.get k=some u->u.own=true->∃A,J.get k=some A/\A.own=true):St P F J w F' J' w':=by
 refine⟨h.ext,h.rel,h.size,λB g i=>h.keep B g λk u q j l m n=>?_,λk u q j l m n=>?_,h.os,h.tape,h.output,h.lock.trans a,z▸h.next,z▸h.new,λb g=>?_⟩
 ·obtain⟨v,c,d⟩:=f k u j l;exact i k v q c d (a▸m) n
 ·rcases h.own k u q j l (a▸m) n with h1|⟨e,o,p,c,d,r,s,t⟩
  ·exact .inl h1
  ·obtain⟨v,x,y⟩:=f e o c d;exact .inr ⟨e,v,p,x,y,a▸r,s,t⟩
 ·rcases h.rW b g with h1|h1|⟨e,o,p,c,d,r,s,t⟩
  ·exact .inl h1
  ·exact .inr (.inl h1)
  ·obtain⟨v,x,y⟩:=f e o c d;exact .inr (.inr ⟨e,v,p,x,y,a▸r,s,t⟩)
def St.right{F':Env}{τ:aC}{w':World}(h:St P F J w F' J' w')(rel:SR P F' τ w')(c:τ.lock=J'.lock)(a:τ.next=J'.next)(d:∀k u,τ.get k=some u->u.own=true->∃b,J'.get k=some b/\b.own=true):St P F J w F' τ w':=by refine⟨h.ext,rel,h.size,h.keep,λk u q e f g i=>?_,h.os,h.tape,h.output,c.trans h.lock,by rw[a];exact h.next,by rw[a];exact h.new,h.rW⟩;obtain⟨v,j,l⟩:=d k u e f;exact h.own k v q j l g i
def bW(xs:Q3):Q6:=eP (xs.flatMap GV.cells)
def QW{xs:Q3}{sz:Nat}(h:∀x∈xs,x.cells.length=sz):(xs.flatMap GV.cells).length=xs.length*sz:=by
 induction xs with
 |nil=>simp
 |cons x xs a=>rw[kP,dM,h x aA,a (λy b=>h y (by simp[b])),ig,uj];omega
def at7{xs:Q3}{sz:Nat}(h:∀x∈xs,x.cells.length=sz)(i:Nat):(xs.flatMap GV.cells).drop (i*sz)=(xs.drop i).flatMap GV.cells:=by
 induction xs generalizing i with
 |nil=>simp
 |cons x xs b=>
  cases i with
  |zero=>simp
  |succ i=>have a:=h x aA;rw[kP,aeE,IJ (by rw[a,uj];omega),a,aW,Y6,<-b (λy c=>h y (by simp[c]))];congr 1;rw[uj];omega
def at6{xs:Q3}{sz i:Nat}{x:GV}(h:∀x∈xs,x.cells.length=sz)(hi:xs[i]? =some x):((xs.flatMap GV.cells).drop (i*sz)).take sz=x.cells:=by
 rw[at7 h];have:xs.drop i=x::xs.drop (i+1):=by obtain⟨a,rfl⟩:=fV.1 hi;exact iG a
 have b:=h x (sD hi);rw[this,kP,Uf ah,lS ah]
def Wn(l:Q3)(n:Nat):eP (l.take n)=(eP l).take n:=by rw[yD,yD,aeM]
def Wl(l:Q3)(n:Nat):eP (l.drop n)=(eP l).drop n:=by rw[yD,yD,List.map_drop]
def JD(l m:Q3):eP (l++m)=eP l++eP m:=by rw[yD,yD,yD,nP]
def ungroup:∀(xs:Q3)(vs:Qt),aG F (bW xs) vs->(∀x∈xs,x.cells.all GV.scalar=true)->∃a,aT F.ro xs a/\dR a=vs/\∀(k:Nat) x y,xs[k]? =some x->a[k]? =some y->y.cells.size=x.cells.length
 |[],vs,h,_=>by simp only[bW,List.flatMap_nil,eP,aG]at h;subst h;exact⟨[],by simp[aT],rfl,aA⟩
 |x::xs,vs,h,f=>by
  have m:aG F (eP x.cells++bW xs) vs:=by rw[bW,kP,JD]at h;exact h
  have c:=m.take x.cells.length;have n:=m.drop x.cells.length;rw[Uf (by rw[nS];omega),lS (by rw[nS];omega)]at c;rw[Y4 (by rw[nS];omega),IJ (by rw[nS];omega),aW]at n;obtain⟨a,p,q,r⟩:=ungroup xs _ n (λy i=>f y (by simp[i]));have j:=c.length;rw[nS]at j;have fin:∀y,GR F.ro x y->y.cells.toList=vs.take x.cells.length->∃a,aT F.ro (x::xs) a/\dR a=vs/\∀(k:Nat) e y,(x::xs)[k]? =some e->a[k]? =some y->y.cells.size=e.cells.length:=by
   intro y i d;refine⟨y::a,by simp only[aT];exact⟨y,a,rfl,i,p⟩,?_,?_⟩
   ·have:dR (y::a)=y.cells.toList++dR a:=by simp[dR]
    rw[this,d,q,IU]
   ·intro k e s l b;cases k with
    |zero=>simp at l b;subst l;subst b;rw[j,<-d];simp
    |succ k=>exact r k e s (by simpa using l) (by simpa using b)
  cases x with
  |g t=>exact fin (.agg ⟨vs.take t.length⟩) (by simp only[GR];exact⟨_,rfl,(qC _ _).2 c⟩) rfl
  |_=>simp only[GV.cells,eP,aG,ig,kF]at c j;obtain⟨u,z,v,o,rfl⟩:=c;refine fin u ((mQ _ _).2 o) ?_;rw[aj0 (GR.qw ((mQ _ _).2 o) rfl)];exact v.symm
def aT.scalars{ro:QP}:∀{gs:Q3}{vs:Qt},aT ro gs vs->(∀v∈vs,qw v=true)->gs.all GV.scalar=true
 |[],_,_,_=>rfl
 |g::gs,vs,h,a=>by
  simp only[aT]at h;obtain⟨x,xs,rfl,h1,b⟩:=h;simp only[qZ,aO];refine⟨?_,aT.scalars b λv c=>a v (by simp[c])⟩;cases g with
  |g d=>simp only[GR]at h1;obtain⟨vs,rfl,_⟩:=h1;have:=a (.agg ⟨vs⟩) aA;simp[qw]at this
  |_=>rfl
def OR.Oi{q:Place}{m et:Nat}{f:Bool}(h:OR P F q w (.vec m et f)):∃xs,aJ.val m=some (.l xs)/\(∀x∈xs,x.cells.length=q.es)/\et≠0/\0<q.es/\sizeT P et=some q.es/\xs.length*q.es<=q.sz/\(∀x∈xs,x.cells.all GV.scalar=true)/\OR P F q w (.cells (bW xs) et true true):=by
 obtain⟨xs,l,b,n,o,p,s,i,t,u,j,r,z,_⟩:=h;obtain⟨A,B,D⟩:=r.room rfl;have c:∀x∈xs,x.cells.length=q.es:=by intro x E;obtain⟨k,d⟩:=LX E;obtain⟨y,G,e⟩:=i.at d;rw[e.ZY];exact t y (sD G)
 have g:aG F (bW xs) (dR o):=by rw[bW,<-aaU];exact aht ((qC _ _).1 i)
 refine⟨xs,p,c,A,B,D,j,z,l,b,n,s,{fits:=r.fits,le:=by rw[bW,nS,QW c];exact j,shut:=aA,cell:=λk a d=>?_,free:=r.free,whole:=r.whole,room:=r.room}⟩;obtain⟨v,e,H⟩:=g.at d;exact⟨v,u k v e,H⟩
def OR.YO{q:Place}{m et:Nat}(h:OR P F q w (.vec m et true)):q.es<=q.sz:=by obtain⟨c,d,a,e,f,g,i,j,k,l,n,r,o,b⟩:=h;exact b rfl
def OR.zI{q:Place}{m et:Nat}{f:Bool}{xs:Q3}(v:f=true->q.es<=q.sz)(j:aJ.val m=some (.l xs))(d:∀x∈xs,x.cells.length=q.es)(e:∀x∈xs,x.cells.all GV.scalar=true){c:Q6}(h:OR P F q w (.cells c et true true))(z:∀vs,aG F c vs->aG F (bW xs) vs):OR P F q w (.vec m et f):=by
 obtain⟨o,g,A,B,r⟩:=h;have p:=r.fits;have D:=r.le;have l:aG F c ((o.toList.drop q.ba).take c.length):=by refine aG.of (by simp;omega) λk a b=>?_;obtain⟨x,E,j⟩:=r.cell k a b;have n:=(fV.1 b).1;exact⟨x,by rw[mW,au n,uh];simpa using E,j⟩
 have s:=z _ l;obtain⟨G,t,H,I⟩:=ungroup xs _ s e;have u:xs.length*q.es=c.length:=by have:=s.length;rw[bW,nS,QW d]at this;rw[this];simp;omega
 refine⟨xs,o,g,A,G,j,B,t,λy L=>?_,λk x b=>?_,ah,{fits:=r.fits,le:=aA,shut:=aA,cell:=aA,free:=r.free,whole:=r.whole,room:=r.room},e,v⟩
 ·obtain⟨k,b⟩:=LX L;have i:k<xs.length:=by rw[t.length];exact(fV.1 b).1
  rw[I k _ y (bV i) b];exact d _ (gY i)
 ·rw[H,mW]at b;split at b
  ·rw[uh]at b;simpa using b
  ·cases b
def lW(J:aC)(id:Nat)(xs:Q3)(et:TypeId):aC:=J.put id (.cells (bW xs) et true true)
def O8(h:SR P F J w){id m et:Nat}{f:Bool}{q:Place}(a:J.get id=some (.vec m et f))(b:F id=some q):∃xs,aJ.val m=some (.l xs)/\(∀x∈xs,x.cells.length=q.es)/\et≠0/\0<q.es/\sizeT P et=some q.es/\xs.length*q.es<=q.sz/\(∀x∈xs,x.cells.all GV.scalar=true)/\SR P F (lW J id xs et) w:=by obtain⟨xs,c,d,e,g,i,j,k,l⟩:=(h.at a b).Oi;exact⟨xs,c,d,e,g,i,j,k,h.swap a rfl (.inl ⟨q,b,l⟩)⟩
def FT{id:Nat}{xs:Q3}{et:TypeId}:(lW J id xs et).get id=some (.cells (bW xs) et true true):=by unfold lW;rw[aC.get_put,au rfl]
def TD{F':Env}{w':World}{id m et:Nat}{f:Bool}{xs:Q3}(b:J.get id=some (.vec m et f))(h:St P F (lW J id xs et) w F' J' w'):St P F J w F' J' w':=by
 refine h.left rfl rfl λk u a c=>?_;unfold lW at a;rw[aC.get_put]at a;split at a
 ·next e=>subst e;exact⟨_,b,rfl⟩
 ·exact⟨u,a,c⟩
def aE8{F':Env}{w':World}{id m et:Nat}{f:Bool}{q:Place}{xs:Q3}(i:f=true->q.es<=q.sz)(j:J.get id=some (.vec m et f))(l:F id=some q)(n:aJ.val m=some (.l xs))(c:∀x∈xs,x.cells.length=q.es)(d:∀x∈xs,x.cells.all GV.scalar=true)(h:St P F J w F' (lW J id xs et) w'):St P F J w F' J w':=by
 have a:=h.ext.pl _ _ l;have g:=OR.zI i n c d (h.rel.at FT a) (λ_ h=>h);refine h.right ((h.rel.swap (o':=.vec m et f) FT rfl (.inl ⟨q,a,g⟩)).sub (λk o b=>?_) (dK _)) rfl rfl (λk o b p=>?_)
 ·unfold lW;rw[aC.get_put,aC.get_put];split
  ·next e=>rw[e,j]at b;exact b
  ·exact b
 ·unfold lW;rw[aC.get_put];split
  ·exact⟨_,rfl,rfl⟩
  ·exact⟨o,b,p⟩
def Ve{m:Nat}{g:GV}(j:aJ.val m=some g):∀(n off:Nat){l:Q6},Jo m off n=some l->∃r,takeN (eP g.cells) off n=some r/\∀vs,aG F r vs->aG F l vs
 |0,off,l,h=>by simp only[Jo,bf]at h;subst h;exact⟨[],by simp[takeN],λ_ h=>h⟩
 |n+1,off,l,h=>by
  simp only[Jo]at h;split at h
  ·next a r p q=>
   cases h;obtain⟨_,f,_,b,s⟩:=oz (F:=F) p;simp only[Nd.den,j]at b;split at b
   ·next c k=>
    split at b
    ·next t=>
     cases b;obtain⟨u,v,y⟩:=Ve j n (off+1) q;obtain⟨z,A,I⟩:=uJ v;refine⟨lT f::u,?_,?_⟩
     ·have B:off<g.cells.length:=(fV.1 k).1;have D:(eP g.cells).drop off=lT f::(eP g.cells).drop (off+1):=by
       have d:(eP g.cells)[off]? =some (lT f):=by rw[Q5,k];rfl
       obtain⟨i,E⟩:=fV.1 d;rw[iG i,E]
      unfold takeN;simp only[D,AQ,<-z,ig,A,if_true]
     ·intro vs e;simp only[aG]at e⊢;obtain⟨x,o,rfl,G,H⟩:=e;exact⟨x,o,rfl,s x t ((mQ _ _).2 G),y o H⟩
    ·cases b
   ·cases b
  ·cases h
def adM{t:TypeId}{m off:Nat}{g:GV}{v:AV}(f:aJ.val m=some g)(h:Tt P t m off=some v):∃r,(match pG P t with
 |some true=>match sizeT P t with
  |some n=>(takeN (eP g.cells) off n).map .agg
  |none=>none
 |some false=>(eP g.cells)[off]?
 |none=>none)=some r/\∀y,VR F r y->VR F v y:=by
 unfold Tt at h;split at h
 ·next d=>
  split at h
  ·next n j=>
   obtain⟨l,k,rfl⟩:=bG.1 h;obtain⟨r,o,a⟩:=Ve (F:=F) f n off k;rw[d,j];refine⟨.agg r,by simp[o],λy b=>?_⟩;simp only[VR]at b⊢;obtain⟨i,rfl,e⟩:=b;exact⟨i,rfl,a i e⟩
  ·cases h
 ·next d=>
  obtain⟨_,p,_,a,e⟩:=oz (F:=F) h;simp only[Nd.den,f]at a;split at a
  ·next c q=>
   split at a
   ·next s=>
    cases a;rw[d];exact⟨lT p,by simp only;rw[Q5,q];rfl,λy b=>e y s ((mQ _ _).2 b)⟩
   ·cases a
  ·cases a
 ·cases h
def aEr(h:SR P F J w){t:TypeId}{a v:AV}{x:Value}(d:Yw P t J a=some v)(E:VR F a x):∃y,(Instr.loadAt t x).run P w=.ok y w/\VR F v y:=by
 unfold Yw at d;split at d
 ·next m b=>
  simp only[VR]at E;obtain⟨g,U,base,cs,z,fr,u,H,I,W,rfl,X⟩:=E;obtain⟨r,l,L⟩:=adM (F:=F) H d;have M:VR F (.rp (lT g) b) (.pointer (some ⟨U,base+b,none⟩)):=by simp only[VR];exact⟨U,base,cs,z,fr,u,I,(mQ _ _).1 W,rfl,X⟩
  have N:yj P t J (.rp (lT g) b)=some r:=by simp only[yj,NP];exact l
  obtain⟨y,s,O⟩:=Hu h N M;exact⟨y,s,L y O⟩
 ·next id i b=>
  split at d
  ·next m et _ hg=>
   split at d
   ·next Y Q=>
    split at d
    ·next e he=>
     simp only[VR]at E;obtain⟨q,k,j,Z,hj,rfl⟩:=E;obtain⟨G,H,I,W,X,s,_,_,hS⟩:=O8 h hg Z;rw[Q]at s;cases s;obtain⟨g,g1,o⟩:=iq he;simp only[Nd.den,H,hj]at o;split at o
     ·next aa=>
      split at o
      ·next x R=>
       split at o
       ·next A=>
        cases o;obtain⟨r,l,L⟩:=adM (F:=F) g1 d;have B:=at6 I R;have p:∀n f,takeN (eP g.cells) b n=some f->takeN (bW G) (j.toNat*q.es+b) n=some f:=by
         intro n f c;obtain⟨e1,e2,e3⟩:=uJ c;rw[nS]at e3;have:((bW G).drop (j.toNat*q.es+b)).take n=f:=by rw[<-rZ,bW,<-Wl,e1,<-B,Wn,LW,aeQ];congr 1;rw[A]at e3;omega
         unfold takeN;simp only[this,e2,if_true]
        have D:∀f,(eP g.cells)[b]? =some f->(bW G)[j.toNat*q.es+b]? =some f:=by
         intro f c;have S:b<q.es:=by have:=(fV.1 c).1;rw[nS,A]at this;exact this
         rw[<-B,Wn,mW,au S,Wl,uh]at c;exact c
        have N:yj P t (lW J id G et) (.p id (j.toNat*q.es+b))=some r:=by
         simp only[yj,FT];split at l
         ·next T=>
          rw[T];split at l
          ·next n hn=>
           rw[hn];obtain⟨f,c,rfl⟩:=bG.1 l;simp only[p n f c,iH]
          ·cases l
         ·next T=>rw[T];exact D r l
         ·cases l
        obtain⟨y,s,O⟩:=Hu hS N (x:=.pointer (some ⟨q.bl,q.ba+j.toNat*q.es+b,none⟩)) (by simp only[VR];exact⟨q,Z,by rw[jV]⟩);exact⟨y,s,L y O⟩
       ·cases o
      ·cases o
     ·cases o
    ·cases d
   ·cases d
  ·cases d
 ·cases d
def aEn{t:TypeId}{a v:AV}{x:Value}{f:Nat}(h:Yt P t a f=some v)(d:VR F a x):∃y,(Instr.fieldAt t x f).run P w=.ok y w/\VR F v y:=by
 unfold Yt at h;split at h
 ·next e j=>
  split at h
  ·next l o=>
   split at h
   ·next n p=>
    split at h
    ·cases h
    ·next r=>
     split at h
     ·next m b=>
      cases h;simp only[VR]at d;obtain⟨g,s,base,z,c,A,u,B,D,E,rfl,G⟩:=d;refine⟨.pointer (some ⟨s,base+b+l.offset,none⟩),?_,?_⟩
      ·simp[Instr.fieldAt,bD j,o,Instr.sureAddr,fieldPlace,jG p,r,sK]
      ·simp only[VR];exact⟨g,s,base,z,c,A,u,B,D,E,by rw[jV],G⟩
     ·next id m b=>
      cases h;simp only[VR]at d;obtain⟨q,k,i,H,hi,rfl⟩:=d;refine⟨.pointer (some ⟨q.bl,q.ba+i.toNat*q.es+b+l.offset,none⟩),?_,?_⟩
      ·simp[Instr.fieldAt,bD j,o,Instr.sureAddr,fieldPlace,jG p,r,sK]
      ·simp only[VR];exact⟨q,k,i,H,hi,by rw[jV]⟩
     ·cases h
   ·cases h
  ·cases h
 ·cases h
def RI{i:Nat}{g:GV}{y:Value}(l:aJ.val i=some g)(e:GR F.ro g y):∀{c j:Nat}{k:AV},JV i c j=some k->∃(a:IntKind)(m:Int),k=.i .i64 m/\y=.int a m
 |0,j,k,h=>by cases h
 |c+1,j,k,h=>by
  unfold JV at h;have n:∀{r v},lI (.BA i j)=some r->(∀x,VR F r x->VR F (.b v) x)->∃(a:IntKind)(m:Int),g=.i a m/\decide (m=(j:Int))=v:=by
   intro r v b d;obtain⟨_,z,A,f,q⟩:=oz (F:=F) b;simp only[Nd.den,l]at f;cases g with
   |i a m=>simp only[bf]at f;subst f;have:=d _ (q (.bool (decide (m=(j:Int)))) rfl (by simp only[GR]));simp only[VR]at this;cases this;exact⟨a,m,rfl,rfl⟩
   |_=>cases f
  have fin:∀{r},lI (.BA i j)=some r->(∀x,VR F r x->VR F (.b true) x)->some (AV.i .i64 (j:Int))=some k->∃(a:IntKind)(m:Int),k=.i .i64 m/\y=.int a m:=by
   intro r b d s;obtain⟨a,m,rfl,o⟩:=n b d;cases s;have o:m=(j:Int):=by simpa using o
   subst o;simp only[GR]at e;exact⟨a,_,rfl,e⟩
  split at h
  ·next b=>exact fin b (λ_ h=>h) h
  ·next b=>exact RI l e h
  ·next m b=>
   split at h
   ·next p=>
    obtain⟨v,d,t⟩:=Jt p;cases d;exact fin b (λx u=>t F x u) h
   ·next p=>exact RI l e h
   ·cases h
  ·cases h
def aEo(h:SR P F J w){t:TypeId}{a i v:AV}{x y:Value}(b:Yv P J t a i=some v)(d:VR F a x)(hy:VR F i y):∃z,(Instr.indexAt t x y).run P w=.ok z w/\VR F v z:=by
 unfold Yv at b;split at b
 ·next e H=>
  split at b
  ·next aa ni f I=>
   obtain⟨gi,r,i2,l⟩:=nK I hy;split at b
   ·next n=>
    obtain⟨m,L,rfl⟩:=bG.1 b;obtain⟨g,M,c⟩:=iq L;simp only[VR]at d;obtain⟨gl,N,l2,l3⟩:=d;simp only[Nd.den,N,r]at c;split at c
    ·next p k j O Q=>
     cases O;cases Q;simp only[GR]at l;subst l;split at c
     ·next B=>
      split at c
      ·next z hz=>
       split at c
       ·next R=>
        cases c;have S:zT P t (.ro (eP p)) (.i k j)=some (.rp (lT g) 0):=by
         have:(eP p)[j.toNat]? =some (lT g):=by rw[Q5,hz];rfl
         simp only[zT,H,yh,f,au B,this,NP,nS,R,if_true]
        obtain⟨T,D,E⟩:=Ru (P:=P) (w:=w) S ((mQ (.l p) x).1 l3) (by simp only[VR]:VR F (.i k j) (.int k j));refine⟨T,D,?_⟩;simp only[VR]at E⊢;obtain⟨bl,base,cs,s,fr,u,k1,k2,k3,k4⟩:=E;exact⟨g,bl,base,cs,s,fr,u,M,k1,(mQ _ _).2 k2,k3,k4⟩
       ·cases c
      ·cases c
     ·cases c
    ·cases c
   ·next id n=>
    split at b
    ·next m et _ hg=>
     split at b
     ·next U=>
      have JJ:=bQ U;subst JJ;obtain⟨m',L,rfl⟩:=bG.1 b;obtain⟨g,M,c⟩:=iq L;simp only[VR]at d;obtain⟨p,N,d⟩:=d;simp only[Nd.den,N,r]at c;split at c
      ·next ab k j O Q=>
       cases O;cases Q;simp only[GR]at l;subst l;split at c
       ·next B=>
        cases c;rcases d with⟨q,G,W,rfl⟩|⟨_,rfl,_⟩
        ·obtain⟨_,_,_,_,_,D,_⟩:=(h.at hg G).Oi;rw[f]at D;cases D;have S:zT P t (.sl id 0 p.length none) (.i k j)=some (.p id (0+j.toNat*q.es)):=by simp only[zT,H,yh,f,au B]
         obtain⟨T,E,h7⟩:=Ru (P:=P) (w:=w) (x:=.slice (some ⟨q.bl,q.ba,none⟩) p.length (q.sz/q.es)) S (by simp only[VR];exact⟨q,G,by simpa using W,aA⟩) (by simp only[VR]:VR F (.i k j) (.int k j));refine⟨T,E,?_⟩;simp only[VR]at h7⊢;obtain⟨q',A,rfl⟩:=h7;rw[G]at A;cases A;exact⟨q,.i64,j,G,M,aA⟩
        ·simp at B;omega
       ·cases c
      ·cases c
     ·cases b
    ·cases b
   ·next id X len Y=>
    split at b
    ·next k Z=>
     obtain⟨kk,m,rfl,rfl⟩:=RI r l Z;have o:zT P t (.sl id X len Y) (.i kk m)=some v:=b;exact Ru o d (by simp only[VR])
    ·cases b
   ·cases b
  ·cases b
 ·next len e H=>
  split at b
  ·next ni hi=>
   obtain⟨g,r,_,l⟩:=nK hi hy;split at b
   ·next k Z=>
    obtain⟨kk,m,rfl,rfl⟩:=RI r l Z;have o:zT P t a (.i kk m)=some v:=b;exact Ru o d (by simp only[VR])
   ·cases b
  ·cases b
 ·cases b
def aEq{t:TypeId}{ts:Ww}{ty:TypeId}{a v:AV}{x:Value}(r:ts[0]? =some t)(j:adL P t a=some v)(h:VR F a x):
 ∃y,(Builtin.len_ ts ty #[x]).run P w=.ok y w/\VR F v y:=by
 have m:∀s:Q2,P.underlying t=some .string->(Builtin.len_ ts ty #[.string ⟨⟨s⟩⟩]).run P w=.ok (.int .i64 s.length) w:=λs f=>by simp[Builtin.len_,r,bD f,goInt,strSize]
 have l:∀(e:TypeId) b (n c:Nat),P.underlying t=some (.slice e)->(Builtin.len_ ts ty #[.slice b n c]).run P w=.ok (.int .i64 n) w:=λe b n c f=>by simp[Builtin.len_,r,bD f,goInt]
 unfold adL at j;split at j
 ·next n f=>
  obtain⟨_,g,_,d,i⟩:=oz (F:=F) j;simp only[VR]at h;obtain⟨g0,o,u,k⟩:=h;simp only[Nd.den,o]at d;split at d
  ·next s p=>
   cases p;cases d;simp only[GR]at k;subst k;exact⟨_,m s f,i _ rfl (by simp only[GR])⟩
  ·cases d
 ·next e n f=>
  obtain⟨_,g,_,d,i⟩:=oz (F:=F) j;simp only[VR]at h;obtain⟨g0,o,u,k⟩:=h;simp only[Nd.den,o]at d;split at d
  ·next z p=>
   cases p;cases d;simp only[GR]at k;rcases k with⟨rfl,_,rfl⟩|⟨E,A,c,G,H,rfl,_⟩
   ·exact⟨_,l e _ _ _ f,i _ rfl (by simp only[GR];rfl)⟩
   ·exact⟨_,l e _ _ _ f,i _ rfl (by simp only[GR])⟩
  ·cases d
 ·next e id n f=>
  obtain⟨_,g,_,d,i⟩:=oz (F:=F) j;simp only[VR]at h;obtain⟨z,B,h⟩:=h;simp only[Nd.den,B,bf]at d;subst d;rcases h with⟨q,I,D,rfl⟩|⟨_,rfl,rfl⟩
  ·exact⟨_,l e _ _ _ f,i _ rfl (by simp only[GR])⟩
  ·exact⟨_,l e _ _ _ f,i _ rfl (by simp only[GR];rfl)⟩
 ·cases j
def aEp{t:TypeId}{a i v:AV}{x y:Value}(b:Yu P t a i=some v)(p:VR F a x)(q:VR F i y):∃z,(Instr.index t x y).run P w=.ok z w/\VR F v z:=by
 unfold Yu at b;split at b
 ·next r=>
  split at b
  ·next n A B h=>
   obtain⟨S,l,T,f⟩:=nK h q;obtain⟨U,D,W,u⟩:=nK B p;obtain⟨_,g,_,d,E⟩:=oz (F:=F) b;simp only[Nd.den,D,l]at d;split at d
   ·next s k j G H=>
    cases G;cases H;simp only[GR]at f;subst f;simp only[GR]at u;subst u;split at d
    ·next I=>
     split at d
     ·next c L=>
      cases d;have M:Gh P t (.s s) (.i k j)=some (.i .u8 c.toNat):=by simp only[Gh,r,yh,au I,L]
      obtain⟨z,N,O⟩:=abo (P:=P) (w:=w) (F:=F) M (by simp only[VR]:VR F (.s s) (.string ⟨⟨s⟩⟩)) (by simp only[VR]:VR F (.i k j) (.int k j));exact⟨z,N,E z rfl ((mQ _ _).2 O)⟩
     ·cases d
    ·cases d
   ·cases d
  ·cases b
 ·next len e r=>
  split at b
  ·next A hi=>
   obtain⟨g,l,_,f⟩:=nK hi q;split at b
   ·next k Q=>
    obtain⟨R,m,rfl,rfl⟩:=RI l f Q;have o:Gh P t a (.i R m)=some v:=b;exact abo o p (by simp only[VR])
   ·cases b
  ·cases b
 ·cases b
def afE{F:Env}{lo:Qf}{b:WF}{l:Nat}{d:Nd}{e:GV}(i:(match lo with|none=>gq d|some a=>jy a)=some l)(f:mX F lo b)(j:aJ.val l=some e):
 (lo=none/\b=none/\d.den aJ.I aJ.val=some e)\/(∃v,b=some v/\GR F.ro e v):=by
 cases lo with
 |none=>
  obtain⟨g,c,k⟩:=iq i;rw[j]at c;cases c;refine .inl ⟨rfl,?_,k⟩;cases b with
  |none=>rfl
  |some v=>simp[mX]at f
 |some a=>
  cases b with
  |none=>simp[mX]at f
  |some v=>
   have h:VR F a v:=by simpa[mX]using f
   obtain⟨g,c,_,m⟩:=nK i h;rw[j]at c;cases c;exact .inr ⟨v,rfl,m⟩
def adN{lo hi:Qf}{f g:WF}{l h:Nat}{d:Nd}{k m:IntKind}{j c:Int}{len:Nat}(n:Ql lo=some l)(o:U3 d hi=some h)(h1:mX F lo f)(s:mX F hi g)
 (t:aJ.val l=some (.i k j)) (u:aJ.val h=some (.i m c)) (x:d.den aJ.I aJ.val=some (.i m c)->c=len) (h0:0<=j) (y:j<=c) (z:c<=len):
 ∃a b:Qf,mX F a f/\mX F b g/\y8 len (λh=>Nat.ble h len) a b=some (j.toNat,c.toNat):=by
 have p:=afE (d:=.ci .i64 0) (by cases lo<;>exact n) h1 t;have q:=afE (d:=d) (by cases hi<;>exact o) s u;have i:Nat.ble c.toNat len=true:=aeS ah;have A:∃b:Qf,mX F b g/\Cm len (λh=>Nat.ble h len) b=some c.toNat:=by
  rcases q with⟨_,r,e⟩|⟨v,rfl,e⟩
  ·refine⟨none,by rw[r];simp[mX],?_⟩;simp only[Cm];rw[x e];simp
  ·simp only[GR]at e;subst e;exact⟨some (.i m c),by simp[mX,VR],by simp only[Cm,yh];rw[au ⟨ah,i⟩]⟩
 have B:∃a:Qf,mX F a f/\MH c.toNat a=some j.toNat:=by
  rcases p with⟨_,r,e⟩|⟨v,rfl,e⟩
  ·refine⟨none,by rw[r];simp[mX],?_⟩;simp only[Nd.den,bf,GV.i.injEq]at e;simp only[MH];rw[<-e.2];rfl
  ·simp only[GR]at e;subst e;exact⟨some (.i k j),by simp[mX,VR],by simp only[MH,yh];rw[au ⟨h0,ah⟩]⟩
 obtain⟨b,D,E⟩:=A;obtain⟨a,G,H⟩:=B;exact⟨a,b,G,D,by simp only[y8,E,H]⟩
def amd(h:SR P F J w){t:TypeId}{a v:AV}{x:Value}{lo hi:Qf}{o p:WF}(b:Tv P t a lo hi=some v)(H:VR F a x)(q:mX F lo o)(r:mX F hi p):
 ∃y,(Instr.sliceAt t x o p none).run P w=.ok y w/\VR F v y:=by
 unfold Tv at b;split at b
 ·next I=>
  split at b
  ·next n hn=>
   split at b
   ·next l hh L M=>
    obtain⟨gs,u,s2,E⟩:=nK hn H;obtain⟨_,g,_,c,N⟩:=oz (F:=F) b;simp only[Nd.den,u]at c;split at c
    ·next s k G k' d O Q R=>
     cases O;split at c
     ·next A=>
      cases c;simp only[GR]at E;subst E;obtain⟨j,m,S,T,U⟩:=adN (len:=s.length) L M q r Q R (λB=>by simp only[Nd.den,u,bf,GV.i.injEq]at B;exact B.2.symm) A.1 A.2.1 A.2.2;have W:CO P t J (.s s) j m=some (.s ((s.take d.toNat).drop G.toNat)):=by simp only[CO,I,U,iH]
      obtain⟨z,X,Y⟩:=Yh h W (by simp only[VR]:VR F (.s s) (.string ⟨⟨s⟩⟩)) S T;exact⟨z,X,N z rfl ((mQ _ _).2 Y)⟩
     ·cases c
    ·cases c
   ·cases b
  ·cases b
 ·next e I=>
  split at b
  ·next n D Z=>
   split at b
   ·next l hh L M=>
    simp only[VR]at H;obtain⟨gs,u,s2,E⟩:=H;obtain⟨_,g,_,c,N⟩:=oz (F:=F) b;simp only[Nd.den,u]at c;split at c
    ·next f k G k' d O Q R=>
     cases O;split at c
     ·next A=>
      cases c;obtain⟨c1,c2,c3,c4⟩:=A;obtain⟨j,m,S,T,U⟩:=adN (len:=f.length) L M q r Q R (λB=>by simp only[Nd.den,u,bf,GV.i.injEq]at B;exact B.2.symm) c1 c2 c3;have W:CO P t J (.ro (eP f)) j m=some (.ro (eP ((f.take d.toNat).drop G.toNat))):=by
       simp only[CO,I,Z,nS,U,AU];unfold UH;split
       ·next e=>
        have:(f.take d.toNat).drop G.toNat=[]:=IJ (by simp;omega);rw[this];rfl
       ·next e=>
        have i:0<f.length:=ah;have h0:(eP f)[0]? =some (lT f[0]):=by rw[Q5,bV i];rfl
        rw[h0];simp only;have aa:(lT f[0]).cells.length=D:=by rw[NP,nS];rw[List.all_eq_true]at c4;exact bQ (c4 _ (gY i))
        rw[au aa,Wl,Wn]
      obtain⟨z,X,Y⟩:=Yh h W ((mQ (.l f) x).1 E) S T;exact⟨z,X,N z rfl ((mQ _ _).2 (by simpa only[lT]using Y))⟩
     ·cases c
    ·cases c
   ·cases b
  ·cases b
 ·cases b
def azU{cs vs r:Q3}{off:Nat}(h:putCells cs off vs=some r):off+vs.length<=cs.length/\r=cs.take off++vs++cs.drop (off+vs.length):=by
 unfold putCells at h;split at h
 ·next a=>cases h;exact⟨a,rfl⟩
 ·cases h
def GV.azZ{x y:GV}{off:Nat}{vs:Q3}(h:x.put off vs=some y)(c:vs.all GV.scalar=true)(e:x.cells.all GV.scalar=true):off+vs.length<=x.cells.length/\y.cells=x.cells.take off++vs++x.cells.drop (off+vs.length)/\y.cells.length=x.cells.length/\y.cells.all GV.scalar=true:=by
 have fin:∀r:Q3,off+vs.length<=x.cells.length->r=x.cells.take off++vs++x.cells.drop (off+vs.length)->r.length=x.cells.length/\r.all GV.scalar=true:=by intro r f d;subst d;refine⟨by simp;omega,?_⟩;rw[aey,aey,c];rw[List.all_eq_true]at e;simp only[TU,aO,List.all_eq_true];exact⟨λa j=>e a (L6 j),λa j=>e a (LZ j)⟩
 have one:∀v,off=0->vs=[v]->x.cells.length=1->y=v->off+vs.length<=x.cells.length/\y.cells=x.cells.take off++vs++x.cells.drop (off+vs.length)/\y.cells.length=x.cells.length/\y.cells.all GV.scalar=true:=by intro v p q k t;subst p;subst q;subst t;simp only[qZ,aez,TU]at c;have m:y.cells=[y]:=GV.KX c;refine⟨by simp[k],?_,by rw[m,k];rfl,by rw[m];simp[c]⟩;rw[m,IJ (by rw[k];simp)];simp
 unfold GV.put at h;split at h
 ·next o=>
  obtain⟨r,u,rfl⟩:=bG.1 h;obtain⟨f,d⟩:=azU u;obtain⟨z,A⟩:=fin r f d;exact⟨f,d,z,A⟩
 ·next n=>
  have B:x.cells.length=1:=by
   cases x with
   |g o=>exact absurd rfl (n o)
   |_=>rfl
  split at h
  ·next v=>cases h;exact one y rfl rfl B rfl
  ·cases h
def ahv{y:GV}{vs:Q3}{off sz:Nat}:∀{xs:Q3}{i:Nat}{x:GV},(∀z∈xs,z.cells.length=sz)->xs[i]? =some x->off+vs.length<=sz->y.cells=x.cells.take off++vs++x.cells.drop (off+vs.length)->
 (xs.set i y).flatMap GV.cells=(xs.flatMap GV.cells).take (i*sz+off)++vs++(xs.flatMap GV.cells).drop (i*sz+off+vs.length)
 |[],i,x,_,hi,_,_=>by simp at hi
 |z::xs,0,x,c,hi,a,d=>by simp only[kQ,bf]at hi;subst hi;have f:=c z aA;rw[List.set_cons_zero,kP,kP,d];rw[Uf ah,Y4 ah];simp[List.append_assoc]
 |z::xs,i+1,x,c,hi,a,d=>by
  have f:=c z aA;have g:=ahv (i:=i) (λu h=>c u (yU _ h)) (by simpa using hi) a d;rw[List.set_cons_succ,kP,kP,g];have j:∀(b:Q3) k,(z.cells++b).take (z.cells.length+k)=z.cells++b.take k:=λF k=>by rw[List.take_append,lS ah,Zg]
  have l:∀(b:Q3) k,(z.cells++b).drop (z.cells.length+k)=b.drop k:=λF k=>by rw[aeE,IJ ah,aW,Zg]
  have e:(i+1)*sz+off=z.cells.length+(i*sz+off):=by rw[f,uj];omega
  rw[e,j,jV z.cells.length,l];simp[List.append_assoc]
def abW:∀{l:Q6}{b:Q4},nodesOf l=some b->l.all AV.pF=true
 |[],_,_=>rfl
 |a::l,b,h=>by
  simp only[nodesOf]at h;split at h
  ·next n r c d=>
   simp only[qZ,aO];exact⟨by cases a<;>simp[jy]at c<;>rfl,abW d⟩
  ·cases h
def aG.split{l m:Q6}:∀{vs:Qt},aG F (l++m) vs->∃a b,vs=a++b/\aG F l a/\aG F m b:=by
 intro vs h;have c:=h.length;rw[dM]at c;refine⟨vs.take l.length,vs.drop l.length,(IU _ _).symm,?_,?_⟩
 ·have:=h.take l.length;rwa [Uf ah,lS ah]at this
 ·have:=h.drop l.length;rwa [Y4 ah,IJ ah,aW]at this
def aEv(h:SR P F J w){t:TypeId}{a v:AV}{x y:Value}(d:YB P t J a v=some J')(n:VR F a x)(N:VR F v y):
 ∃w',(Instr.storeAt t x y).run P w=.ok () w'/\St P F J w F J' w':=by
 unfold YB at d;split at d
 ·next id i b=>
  split at d
  ·next m r f O=>
   split at d
   ·next hc=>
    obtain⟨Q,R⟩:=hc;split at d
    ·next ag vs S s=>
     split at d
     ·next m' T=>
      cases d;simp only[VR]at n;obtain⟨q,k,j,B,hj,rfl⟩:=n;obtain⟨c,h1,U,h3,h4,h5,h6,D,hS⟩:=O8 h O B;rw[S]at h5;cases h5;obtain⟨W,g1,g2,g3⟩:=Xx s (Bc N);obtain⟨g,k1,p⟩:=iq T;simp only[Nd.den,h1,hj,g1]at p;split at p
      ·next ai=>
       split at p
       ·next u X=>
        split at p
        ·next EK=>
         obtain⟨z,hz,rfl⟩:=bG.1 p;obtain⟨p1,p2,p3,p4⟩:=GV.azZ hz g2 (D u (sD X));have Y:=ahv U X ah p2;have E:v.cells.length=W.length:=by rw[g3.length,(Bc N).length]
         have Z:j.toNat<c.length:=(fV.1 X).1;have aa:(bW c).length=c.length*q.es:=by rw[bW,nS,QW U]
         have ab:j.toNat*q.es+b+v.cells.length<=(bW c).length:=by rw[aa,E];have:(j.toNat+1)*q.es<=c.length*q.es:=uQ _ Z;rw[uj]at this;omega
         have G:BP (bW c) (j.toNat*q.es+b) v.cells=some ((bW c).take (j.toNat*q.es+b)++v.cells++(bW c).drop (j.toNat*q.es+b+v.cells.length)):=by unfold BP;rw[au ab]
         have ac:Gi P t (lW J id c r) (.p id (j.toNat*q.es+b)) v=some ((lW J id c r).put id (.cells ((bW c).take (j.toNat*q.es+b)++v.cells++(bW c).drop (j.toNat*q.es+b+v.cells.length)) r true true)):=by simp only[Gi,FT];rw[au ⟨Q,R,abW s⟩,G];rfl
         obtain⟨w',H,l⟩:=Yo hS ac (x:=.pointer (some ⟨q.bl,q.ba+j.toNat*q.es+b,none⟩)) (by simp only[VR];exact⟨q,B,by rw[jV]⟩) N;refine⟨w',H,(TD O l).right ?_ rfl rfl ?_⟩
         ·have ad:=l.rel.at (id:=id) (q:=q) (by rw[aC.get_put,au rfl]) B;have I:OR P F q w' (.vec m' r f):=by
           refine OR.zI (λe=>by subst e;exact(h.at O B).YO) k1 ?_ ?_ ad ?_
           ·intro x n;rcases aeN n with n|rfl
            ·exact U x n
            ·rw[p3,EK]
           ·intro x n;rcases aeN n with n|rfl
            ·exact D x n
            ·exact p4
           ·intro us ae;have e1:bW (c.set j.toNat z)=(bW c).take (j.toNat*q.es+b)++eP W++(bW c).drop (j.toNat*q.es+b+W.length):=by unfold bW;rw[Y,JD,JD,Wn,Wl]
            rw[e1,<-E];obtain⟨u1,u2,rfl,q1,q2⟩:=aG.split ae;obtain⟨u3,u4,rfl,q3,q4⟩:=aG.split q1;obtain⟨ak,L,_,af⟩:=Xx s q4;rw[g1]at L;cases L;exact(q3.append ((qC _ _).1 af)).append q2
          have M:=aC.get_put (lW J id c r) id id (.cells ((bW c).take (j.toNat*q.es+b)++v.cells++(bW c).drop (j.toNat*q.es+b+v.cells.length)) r true true);rw[au rfl]at M;have:=l.rel.swap (o':=.vec m' r f) M rfl (.inl ⟨q,B,I⟩);refine this.sub (λal o A=>?_) (dK _);unfold lW;rw[aC.get_put]at A⊢;split at A
          ·next e=>rw[au e];exact A
          ·next e=>rw[aj e,aC.get_put,aj e,aC.get_put,aj e];exact A
         ·intro k' u' hk A;rw[aC.get_put]at hk⊢;split at hk
          ·next e=>rw[au e];exact⟨_,rfl,rfl⟩
          ·next e=>
           rw[aj e];unfold lW;rw[aC.get_put,aj e];exact⟨u',hk,A⟩
        ·cases p
       ·cases p
      ·cases p
     ·cases d
    ·cases d
   ·cases d
  ·cases d
 ·cases d
def Env.ghost(F:Env)(id:Nat):Env:=⟨F.pl,F.ro,λk=>Nat.beq k id ||F.gh k⟩
def St.ghost(h:SR P F J w){τ:aC}{m et:Nat}{f:Bool}(A:aJ.val m=some (.l []))(B:τ.lock=J.lock)(D:τ.next=J.next)(l:∀k o,τ.get k=some o->J.get k=some o):
 St P F J w (F.ghost J.next) (τ.new (.vec m et f)) w:=by
 have c:F.le (F.ghost J.next):=⟨λ_ _ h=>h,λ_ _ h=>h,λid n=>by simp[Env.ghost,n]⟩
 have get:∀k o,(τ.new (.vec m et f)).get k=some o->(k=J.next/\o=.vec m et f)\/(k≠J.next/\J.get k=some o):=by
  intro k o t;rw[aC.qK,D]at t;split at t
  ·next e=>cases t;exact .inl ⟨e,rfl⟩
  ·next e=>exact .inr ⟨e,l k o t⟩
 have pl:∀k,(F.ghost J.next) k=F k:=λ_=>rfl;have b:∀k q,k=J.next->F k=some q->False:=λk q e d=>by have:=h.dom k q d;omega
 refine⟨c,⟨h.nR,λid q d=>?_,λid o E=>?_,λid n=>?_,λid o g v q x r s j u y z=>?_,h.jl,λid o q r s j=>?_,λp G=>(h.tabs p G).mono c⟩,dK _,λ_ _ _=>rfl,λid o q r s j u=>?_,rfl,rfl,rfl,B,?_,?_,λ_ h=>.inl h⟩
 ·have:=h.dom id q d;show id<τ.next+1;omega
 ·rcases get id o E with⟨rfl,rfl⟩|⟨_,i⟩
  ·exact .inr ⟨by simp[Env.ghost],m,et,f,rfl,A⟩
  ·exact(h.live id o i).mono c
 ·have a:(Nat.beq id J.next ||F.gh id)=true:=n;rw[oV]at a;rcases a with a|a
  ·have e:=bQ a;subst e;refine⟨?_,by show J.next<τ.next+1;omega⟩;rw[pl];cases d:F J.next with
   |none=>rfl
   |some q=>exact absurd (h.dom _ q d) ah
  ·have:=h.kH id a;exact⟨this.1,by show id<τ.next+1;omega⟩
 ·rcases get id o r with⟨e,_⟩|⟨_,i⟩
  ·exact(b id q e y).elim
  ·rcases get g v j with⟨e,_⟩|⟨_,H⟩
   ·exact(b g x e z).elim
   ·exact h.sep id o g v q x i s H u y z
 ·rcases get id o r with⟨e,_⟩|⟨_,i⟩
  ·exact(b id q e j).elim
  ·exact h.lU id o q i s j
 ·rcases get id o r with⟨e,_⟩|⟨_,i⟩
  ·exact(b id q e u).elim
  ·exact .inr ⟨id,o,q,i,s,j,u,rfl⟩
 ·show J.next<=τ.next+1;omega
 ·rintro id (⟨q,d⟩|n)
  ·exact .inl (.inl ⟨q,d⟩)
  ·have a:(Nat.beq id J.next ||F.gh id)=true:=n;rw[oV]at a;rcases a with a|a
   ·have e:=bQ a;right;show J.next<=id/\id<τ.next+1;omega
   ·exact .inl (.inr a)
def Ak:∀(f:Nat){m n:Nat}{xs p:Q3},xM f m n=true->aJ.val m=some (.l xs)->aJ.val n=some (.l p)->xs.length=p.length
 |0,m,n,xs,p,h,h1,d=>by have:=bQ h;subst this;rw[h1]at d;cases d;rfl
 |f+1,m,n,xs,p,h,h1,d=>by
  simp only[xM,oV]at h;rcases h with h|h
  ·have:=bQ h;subst this;rw[h1]at d;cases d;rfl
  ·split at h
   ·next z o a i v q=>
    obtain⟨g,l,c⟩:=aJ.tH m _ q aA;rw[h1]at l;cases l;simp only[Nd.den]at c;split at c
    ·next s k j x r t A=>
     split at c
     ·split at c
      ·split at c
       ·obtain⟨y,_,e⟩:=bG.1 c;cases e;rw[IL];exact Ak f h r d
       ·cases c
      ·cases c
     ·cases c
    ·cases c
   ·next a b q=>
    obtain⟨g,l,c⟩:=aJ.tH m _ q aA;rw[h1]at l;cases l;simp only[Nd.den]at c;split at c
    ·next s B r t=>
     split at c
     ·next u=>cases c;rw[u];exact Ak f h r d
     ·cases c
    ·cases c
   ·cases h
def aDa:∀(f:Nat){m n:Nat}{g:GV}{k:Q3},xM f m n=true->aJ.val m=some g->aJ.val n=some (.l k)->∃xs,g=.l xs
 |0,m,n,g,k,h,h1,d=>by have:=bQ h;subst this;rw[h1]at d;cases d;exact⟨_,rfl⟩
 |f+1,m,n,g,k,h,h1,d=>by
  simp only[xM,oV]at h;rcases h with h|h
  ·have:=bQ h;subst this;rw[h1]at d;cases d;exact⟨_,rfl⟩
  ·split at h
   ·next z o a i q l=>
    obtain⟨p,j,c⟩:=aJ.tH m _ l aA;rw[h1]at j;cases j;simp only[Nd.den]at c;split at c
    ·split at c
     ·split at c
      ·split at c
       ·obtain⟨y,_,e⟩:=bG.1 c;exact⟨_,e.symm⟩
       ·cases c
      ·cases c
     ·cases c
    ·cases c
   ·next a b l=>
    obtain⟨p,j,c⟩:=aJ.tH m _ l aA;rw[h1]at j;cases j;simp only[Nd.den]at c;split at c
    ·split at c
     ·cases c;exact⟨_,rfl⟩
     ·cases c
    ·cases c
   ·cases h
def GN{agg:Bool}{size:Nat}(h1:agg=false->size=1):∀(n:Nat){cs:Q6}{f:Q4}{vs:Qt},elemsOf agg size n cs=some f->aG F cs vs->cs.length=n*size->
 ∃gs,valsOf aJ.val f=some gs/\gs.length=n/\aG F (bW gs) vs/\cs.all AV.pF=true/\∀x∈gs,x.cells.length=size/\x.cells.all GV.scalar=true
 |0,cs,f,vs,h,e,k=>by simp only[elemsOf,bf]at h;subst h;have:cs=[]:=jT (by simpa using k);subst this;exact⟨[],rfl,rfl,by simpa[bW,eP]using e,rfl,aA⟩
 |n+1,cs,f,vs,h,e,k=>by
  simp only[elemsOf]at h;rw[uj,IX]at k;split at h
  ·next a r b D=>
   cases h;obtain⟨gs,u,v,y,z,A⟩:=GN h1 n D (e.drop size) (by simp;omega);have o:cs=cs.take size++cs.drop size:=(IU _ _).symm;have p:vs=vs.take size++vs.drop size:=(IU _ _).symm;cases agg with
   |true=>
    simp only[if_true]at b;have i:VR F (.agg (cs.take size)) (.agg ⟨vs.take size⟩):=by simp only[VR];exact⟨_,rfl,e.take size⟩
    obtain⟨l,m,q,j,s,E,B⟩:=MO b i;cases q;refine⟨.g m::gs,by simp only[valsOf,s,u],by simp[v],?_,?_,?_⟩
    ·have:bW (.g m::gs)=eP m++bW gs:=by unfold bW;rw[kP,JD];rfl
     rw[this,p];refine aG.append ?_ y;simp only[GR]at B;obtain⟨L,G,H⟩:=B;cases G;exact(qC _ _).1 H
    ·rw[o,aey,aO];refine⟨?_,z⟩;unfold Gj at b;simp only at b;split at b
     ·next f t=>exact abW t
     ·cases b
    ·intro x d;rcases bJ.1 d with rfl|d
     ·exact⟨by show m.length=size;rw[j,lZ];omega,E⟩
     ·exact A x d
   |false=>
    have:=h1 rfl;subst this;simp only[iJ,if_false]at b;cases cs with
    |nil=>simp at k
    |cons c cs=>
     simp only[Y8,AU]at b;simp only[aG]at e;obtain⟨x,M,rfl,d,I⟩:=e;obtain⟨g,q,j,s⟩:=nK b d;refine⟨g::gs,by simp only[valsOf,q,u],by simp[v],?_,?_,?_⟩
     ·have:bW (g::gs)=eP g.cells++bW gs:=by unfold bW;rw[kP,JD]
      rw[this,GV.KX j];simp only[eP,bg,aW];exact aG.cons ((mQ _ _).1 s) (by simpa using y)
     ·simp only[qZ,aO];exact⟨by cases c<;>simp[jy]at b<;>rfl,by simpa using z⟩
     ·intro x d;rcases bJ.1 d with rfl|d
      ·rw[GV.KX j];exact⟨rfl,by simp[j]⟩
      ·exact A x d
  ·cases h
def awW(h:SR P F J w){e:TypeId}{x:AV}{b size:Nat}{u:Value}{O e':TypeId}{xs:Q3}(d:listOf P J e x=some b)(i:VR F x u)(ht:P.underlying O=some (.slice e'))(Z:sizeT P e=some size)(v:aJ.val b=some (.l xs))(hs:xs.all (GV.gu size)=true):
 ∃y,Src P size O u xs.length y w/\aG F (bW xs) y:=by
 have A:Ho P O=true:=by unfold Ho;rw[ht]
 have B:∀z∈xs,z.cells.length=size/\z.cells.all GV.scalar=true:=by intro z D;rw[List.all_eq_true]at hs;have:=hs z D;unfold GV.gu at this;rw[aO]at this;exact⟨Nat.eq_of_beq_eq_true this.1,this.2⟩
 have k:(bW xs).all AV.pF=true:=by unfold bW;refine aaV ?_;rw[List.all_eq_true];intro g s;obtain⟨z,D,Q⟩:=Zd.1 s;exact List.all_eq_true.1 (B z D).2 g Q
 unfold listOf at d;split at d
 ·next n=>
  cases d;simp only[VR]at i;obtain⟨g,h1,R,h3⟩:=i;rw[v]at h1;cases h1;have f:Aq J size (.ro (eP xs))=some (xs.length,bW xs):=by simp only[Aq];rw[au,nS,aaU];rfl;rw[List.all_eq_true];intro a S;rw[yD]at S;obtain⟨z,D,rfl⟩:=su.1 S;rw[NP,nS,(B z D).1];simp
  exact src_ok h A f ((mQ (.l xs) u).1 h3) k
 ·obtain⟨g,h1,R⟩:=iq d;rw[v]at h1;cases h1;simp only[Nd.den,valsOf,iH,bf,GV.l.injEq]at R;subst R;exact src_ok h A (size:=size) (n:=0) (l:=[]) rfl i rfl
 ·next id n=>
  split at d
  ·next m et _ s=>
   split at d
   ·next t=>
    cases d;rw[aO]at t;simp only[VR]at i;obtain⟨y,h1,i⟩:=i;have o:=Ak 100 t.2 v h1;rcases i with⟨q,E,j,rfl⟩|⟨_,rfl,rfl⟩
    ·obtain⟨ab,G,T,k3,k4,k5,k6,_,hS⟩:=O8 h s E;rw[v]at G;cases G;have e:=bQ t.1;subst e;rw[Z]at k5;cases k5;have f:Aq (lW J id xs e) q.es (.sl id 0 xs.length none)=some (xs.length,bW xs):=by
      simp only[Aq,FT];have:takeN (bW xs) 0 (xs.length*q.es)=some (bW xs):=by
       have d:(bW xs).length=xs.length*q.es:=by rw[bW,nS,QW T]
       unfold takeN;rw[dY,lS ah,au d]
      rw[this];rfl
     rw[<-o]at j⊢;exact src_ok hS A f (by simp only[VR];exact⟨q,E,by simpa using j,aA⟩) k
    ·have:xs=[]:=jT (by simpa using o);subst this;exact src_ok h A (a:=.gX) (size:=size) (n:=0) (l:=[]) rfl (by simp only[VR]) rfl
   ·cases d
  ·cases d
 ·next id U len W=>
  split at d
  ·next c et wP ac X Y s H S=>
   rw[Z]at H;cases H;split at d
   ·next t=>
    rw[aO,oV,aO]at t;split at d
    ·next cs r=>
     split at d
     ·next ns I=>
      have p:Y=false->size=1:=by
       intro e;subst e;rcases t.2 with h1|h1
       ·simp at h1
       ·exact bQ h1
      obtain⟨g,g1,g2⟩:=iq d;rw[v]at g1;cases g1;simp only[VR]at i;obtain⟨q,E,j,rfl⟩:=i;obtain⟨q',L,ws,aa,fr,hb,rr⟩:=h.obj _ _ s rfl;rw[E]at L;cases L;have M:=(uJ r).2.1;obtain⟨gs,G,T,k3,k4,_⟩:=GN (F:=F) p len I (rr.Ar r) M;simp only[Nd.den,G,iH,bf,GV.l.injEq]at g2;subst g2;obtain⟨y,j1,j2⟩:=src_ok h A (size:=size) (n:=len) (l:=cs) (a:=.sl id U len W) (by simp only[Aq,s,r,iH]) (by simp only[VR];exact⟨q,E,j,rfl⟩) k4;obtain⟨ad,N,ae,WS,_⟩:=GN (F:=F) p len I j2 M;rw[G]at N;cases N;rw[T];exact⟨y,j1,WS⟩
     ·cases d
    ·cases d
   ·cases d
  ·cases d
 ·cases d
def afL(s:Q2):bW (dH s)=yw s:=by
 unfold bW dH yw;induction s with
 |nil=>rfl
 |cons c s a=>simp only[iU,kP,GV.cells,bg,aW,eP,lT,a]
