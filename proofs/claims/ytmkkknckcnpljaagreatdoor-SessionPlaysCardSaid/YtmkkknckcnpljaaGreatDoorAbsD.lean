/- Values that are named by nodes: numbers, texts, truth values, parts of what nobody changes. -/
import Derived.Test.YtmkkknckcnpljaaGreatDoorAbsC
import Derived.Laws.StructEq
set_option linter.all false
namespace Go.aO
noncomputable section
variable[aI]
variable{P:Program}{H:Env}{J J':aA}{w:World}
mutual
def lJ:GV->AV
 |.b x=>.b x
 |.i k n=>.i k n
 |.s x=>.s x
 |.g cs=>.agg (dQ cs)
 |.l xs=>.ro (dQ xs)
def dQ:Q1->List AV
 |[]=>[]
 |a::l=>lJ a::dQ l
end
def wQ:∀l:Q1,dQ l=l.map lJ
 |[]=>rfl
 |a::l=>by simp[dQ,wQ l]
def l9(l:Q1):(dQ l).length=l.length:=by rw[wQ];simp
def O1(l:Q1)(k:Nat):(dQ l)[k]? =(l[k]?).map lJ:=by rw[wQ];simp
mutual
def lV:∀(g:GV)(v:Value),GR H.ro g v↔VR H (lJ g) v
 |.b _,_=>by simp only[GR,VR,lJ]
 |.i _ _,_=>by simp only[GR,VR,lJ]
 |.s _,_=>by simp only[GR,VR,lJ]
 |.g cs,v=>by
  simp only[GR,VR,lJ];constructor
  ·rintro⟨vs,e,h⟩;exact⟨vs,e,(oH cs vs).1 h⟩
  ·rintro⟨vs,e,h⟩;exact⟨vs,e,(oH cs vs).2 h⟩
 |.l xs,v=>by
  simp only[GR,VR,lJ,l9];have f:dQ xs=[]↔xs=[]:=by cases xs<;>simp[dQ]
  rw[f];constructor
  ·rintro(h|⟨i,a,c,d,j,e,k,h,l,m⟩)
   ·exact .inl h
   ·exact .inr ⟨i,a,c,d,j,e,k,(oH xs d).1 h,l,λb=>m (λe=>b (f.2 e))⟩
  ·rintro(h|⟨i,a,c,d,j,e,k,h,l,m⟩)
   ·exact .inl h
   ·exact .inr ⟨i,a,c,d,j,e,k,(oH xs d).2 h,l,λb=>m (λe=>b (f.1 e))⟩
def oH:∀(l:Q1)(vs:Q6),aP H.ro l vs↔aF H (dQ l) vs
 |[],_=>by simp only[aP,aF,dQ]
 |a::l,vs=>by
  simp only[aP,aF,dQ];constructor
  ·rintro⟨x,xs,e,h1,b⟩;exact⟨x,xs,e,(lV a x).1 h1,(oH l xs).1 b⟩
  ·rintro⟨x,xs,e,h1,b⟩;exact⟨x,xs,e,(lV a x).2 h1,(oH l xs).2 b⟩
end
def Lm(g:GV):(lJ g).cells=dQ g.cells:=by cases g<;>simp[lJ,dQ,AV.cells,GV.cells]
def YO:∀l:Q1,(dQ l).flatMap AV.cells=dQ (l.flatMap GV.cells)
 |[]=>rfl
 |a::l=>by simp only[dQ,jF,YO l,Lm];rw[wQ,wQ,wQ,jG]
def GR.cells{g:GV}{v:Value}(h:GR H.ro g v):aF H (dQ g.cells) v.cells.toList:=by rw[<-Lm];exact zB ((lV g v).1 h)
def GR.ad2{g:GV}{v:Value}(h:GR H.ro g v):g.cells.length=v.cells.size:=by have:=h.cells.length;rw[l9]at this;simpa using this
def GV.Jy{g:GV}(h:g.scalar=true):g.cells=[g]:=by cases g<;>first|rfl|(cases h)
def ata{g:GV}(h:g.scalar=true):(lJ g).nU=true:=by cases g<;>first|rfl|(cases h)
def YP:∀{l:Q1},l.all GV.scalar=true->(dQ l).all AV.nU=true
 |[],_=>rfl
 |a::l,h=>by simp only[sW,aK]at h;simp only[dQ,sW,aK];exact⟨ata h.1,YP h.2⟩
def aP.length{ro:Qf}:∀{l:Q1}{vs:Q6},aP ro l vs->l.length=vs.length
 |[],vs,h=>by simp only[aP]at h;subst h;rfl
 |a::l,vs,h=>by simp only[aP]at h;obtain⟨x,xs,rfl,_,b⟩:=h;simp[aP.length b]
def aP.at{ro:Qf}:∀{l:Q1}{vs:Q6},aP ro l vs->∀{k:Nat}{a:GV},l[k]? =some a->∃x,vs[k]? =some x/\GR ro a x
 |[],vs,h,k,a,c=>by simp at c
 |b::l,vs,h,k,a,c=>by
  simp only[aP]at h;obtain⟨x,xs,rfl,h1,d⟩:=h;cases k with
  |zero=>simp at c;subst c;exact⟨x,by simp,h1⟩
  |succ k=>obtain⟨y,e,f⟩:=aP.at d (by simpa using c);exact⟨y,by simpa using e,f⟩
def gQ{x:Nd}{n:Nat}(h:fG x=some n):∃g,aI.val n=some g/\x.den aI.I aI.val=some g:=by obtain⟨a,b⟩:=arA h;exact aI.qI n x a b
def amf{m f:Nat}(h:Yc m f=true):(∃k a b,aI.val m=some (.i k a)/\aI.val f=some (.i k b)/\a≠b)\/(∃a b,aI.val m=some (.s a)/\aI.val f=some (.s b)/\a≠b):=by
 unfold Yc at h;split at h
 ·next k a q b i j=>
  rw[aK]at h;have:=Ut h.1;subst this;obtain⟨g,n,c⟩:=aI.qI _ _ i (by simp);obtain⟨p,o,d⟩:=aI.qI _ _ j (by simp);simp only[Nd.den,aZ]at c d;subst c;subst d;refine .inl ⟨k,a,b,n,o,λe=>?_⟩;subst e;rw[(afO (a:=a) (b:=a)).2 rfl]at h;simp at h
 ·next a b i j=>
  obtain⟨g,n,c⟩:=aI.qI _ _ i (by simp);obtain⟨p,o,d⟩:=aI.qI _ _ j (by simp);simp only[Nd.den,aZ]at c d;subst c;subst d;refine .inr ⟨a,b,n,o,λe=>?_⟩;subst e;rw[(adF (l:=a) (m:=a)).2 rfl]at h;simp at h
 ·cases h
def aac{n m:Nat}:∀{l:W7},(∀p∈l,aI.val p.1=some (.b p.2))->Gn n m l=true->(∃k a b,aI.val n=some (.i k b)/\aI.val m=some (.i k a)/\a≠b)\/(∃a b,aI.val n=some (.s b)/\aI.val m=some (.s a)/\a≠b)
 |[],_,h=>by simp[Gn]at h
 |p::l,s,h=>by
  simp only[Gn,mY]at h;rcases h with h|h
  ·cases d:p.2 with
   |false=>rw[d]at h;simp at h
   |true=>
    rw[d]at h;simp only[cond_true]at h;split at h
    ·next B D u=>
     rw[aK]at h;have e:=bH h.1;subst e;obtain⟨g,v,c⟩:=aI.qI _ _ u (by simp);have t:=s p (by simp);rw[d,v]at t;cases t;simp only[Nd.den]at c;rcases amf h.2 with⟨k,a,b,f,i,j⟩|⟨a,b,f,i,j⟩
     ·rw[i]at c;split at c
      ·next x y o r=>
       cases r;cases x<;>simp only[iD,gG,reduceCtorEq]at c
       split at c
       ·next z=>
        subst z;simp only[aZ,GV.b.injEq,beq_iff_eq]at c;subst c;exact .inl ⟨_,a,_,o,f,j⟩
       ·cases c
      ·cases c
     ·rw[i]at c;split at c
      ·next x y o r=>
       cases r;cases x<;>simp only[iD,xu,reduceCtorEq]at c
       simp only[aZ,GV.b.injEq,beq_iff_eq]at c;subst c;exact .inr ⟨a,_,o,f,j⟩
      ·cases c
    ·cases h
  ·exact aac (λq A=>s q (by simp[A])) h
def aed{c n m:Nat}{b:Bool}:∀{l:W7},(∀p∈l,aI.val p.1=some (.b p.2))->KP c n m l=some b->∃d x y,uZ d=c/\aI.val n=some x/\aI.val m=some y/\iD d x y=some (.b b)
 |[],_,h=>by simp[KP]at h
 |p::l,e,h=>by
  have f:=λh=>aed (c:=c) (n:=n) (m:=m) (b:=b) (l:=l) (λq j=>e q (by simp[j])) h;simp only[KP]at h;split at h
  ·next d k o r=>
   cases a:Nat.beq n k&&Nat.beq m o&&Nat.beq (uZ d) c with
   |false=>rw[a]at h;exact f h
   |true=>
    rw[a]at h;simp only[cond_true,aZ]at h;rw[aK,aK]at a;have s:=bH a.1.1;have t:=bH a.1.2;have u:=bH a.2;subst s;subst t;obtain⟨g,g1,g2⟩:=aI.qI _ _ r (by simp);have i:=e p (by simp);rw[g1,h]at i;cases i;simp only[Nd.den]at g2;split at g2
    ·next x y v z=>exact⟨d,x,y,u,v,z,g2⟩
    ·cases g2
  ·exact f h
def ame{f c:BinOp}{x y g:GV}{r:Bool}(h:EZ f=some c)(h1:iD c x y=some (.b r))(d:iD f x y=some g):g=.b (!r):=by
 cases x with
 |i k a=>
  cases y with
  |i j b=>
   by_cases e:k=j
   ·subst e;unfold EZ at h;split at h<;>cases h<;>simp only[iD,gG,if_true,aZ,GV.b.injEq]at h1 d<;>rw[<-h1,<-d]<;>congr 1<;>rw[qN]<;>simp<;>omega
   ·unfold EZ at h;split at h<;>cases h<;>simp only[iD,ah e]at h1<;>cases h1
  |_=>unfold EZ at h;split at h<;>cases h<;>simp[iD]at h1
 |s a=>
  cases y with
  |s b=>unfold EZ at h;split at h<;>cases h<;>simp only[iD,xu,aZ,GV.b.injEq]at h1 d<;>rw[<-h1,<-d]<;>simp
  |_=>unfold EZ at h;split at h<;>cases h<;>simp[iD]at h1
 |_=>unfold EZ at h;split at h<;>cases h<;>simp[iD]at h1
def abl{a:BinOp}{n m:Nat}{b:Bool}{g:GV}(h:Qh a n m=some b)(c:(Nd.bin a n m).den aI.I aI.val=some g):g=.b b:=by
 unfold Qh at h;split at h
 ·next d f=>
  obtain⟨r,i,rfl⟩:=bg.1 h;obtain⟨j,x,y,e,k,l,o⟩:=aed (λp q=>aI.Bg p.1 p.2 q) i;have:=ahn.1 e;subst this;simp only[Nd.den,k,l]at c;exact ame f o c
 ·cases h
def ayO{x:Nd}{b:Bool}{g:GV}(h:abm x=some b)(c:x.den aI.I aI.val=some g):g=.b b:=by
 unfold abm at h;split at h
 ·next n m=>
  cases d:Gn n m gY.dec with
  |false=>rw[d]at h;simp only[cond_false]at h;exact abl h c
  |true=>
   rw[d]at h;cases h;rcases aac (λp j=>aI.Bg p.1 p.2 j) d with⟨k,a,b,e,f,i⟩|⟨a,b,e,f,i⟩
   ·simp only[Nd.den,e,f,iD,gG,if_true,aZ]at c;rw[<-c];simp[Ne.symm i]
   ·simp only[Nd.den,e,f,iD,xu,aZ]at c;rw[<-c];simp[Ne.symm i]
 ·next n m=>
  cases d:Gn n m gY.dec with
  |false=>rw[d]at h;simp only[cond_false]at h;exact abl h c
  |true=>
   rw[d]at h;cases h;rcases aac (λp j=>aI.Bg p.1 p.2 j) d with⟨k,a,b,e,f,i⟩|⟨a,b,e,f,i⟩
   ·simp only[Nd.den,e,f,iD,gG,if_true,aZ]at c;rw[<-c];simp[Ne.symm i]
   ·simp only[Nd.den,e,f,iD,xu,aZ]at c;rw[<-c];simp[Ne.symm i]
 ·exact abl h c
 ·cases h
def mW{x:Nd}{r:AV}(h:kK x=some r):∃n g,aI.val n=some g/\x.den aI.I aI.val=some g/\∀v,g.scalar=true->GR H.ro g v->VR H r v:=by
 unfold kK at h;split at h
 ·next n f=>
  obtain⟨g,c,e⟩:=gQ f;refine⟨n,g,c,e,λv i a=>?_⟩;split at h
  ·next b d=>
   cases h;have:=aI.Bg n b (OO d);rw[c]at this;cases this;simp only[GR]at a;simp only[VR];exact a
  ·split at h
   ·next b d=>
    cases h;have:=ayO d e;subst this;simp only[GR]at a;simp only[VR];exact a
   ·cases h;simp only[VR];exact⟨g,c,i,a⟩
 ·cases h
def Iz{a:Q4}{r:AV}(h:dB a=some r):∃v,a=some v/\∀(H:Env)(x:Value),VR H v x->VR H r x:=by
 unfold dB at h;split at h
 ·next n=>
  split at h
  ·next b f=>
   cases h;refine⟨_,rfl,λH x c=>?_⟩;have i:=aI.Bg n b (OO f);simp only[VR]at c;obtain⟨g,d,_,e⟩:=c;rw[i]at d;cases d;simp only[GR]at e;subst e;simp only[VR]
  ·cases h
 ·exact⟨r,h,λ_ _ h=>h⟩
def mD{a:AV}{n:Nat}{v:Value}(h:iU a=some n)(e:VR H a v):∃g,aI.val n=some g/\g.scalar=true/\GR H.ro g v:=by
 cases a<;>simp only[iU,reduceCtorEq,aZ]at h
 case nd m=>subst h;simpa only[VR]using e
 case i k m=>obtain⟨g,d,c⟩:=gQ h;simp only[Nd.den,aZ]at c;subst c;exact⟨_,d,rfl,by simpa only[VR,GR]using e⟩
 case b x=>obtain⟨g,d,c⟩:=gQ h;simp only[Nd.den,aZ]at c;subst c;exact⟨_,d,rfl,by simpa only[VR,GR]using e⟩
 case s x=>obtain⟨g,d,c⟩:=gQ h;simp only[Nd.den,aZ]at c;subst c;exact⟨_,d,rfl,by simpa only[VR,GR]using e⟩
 case gu=>obtain⟨g,d,c⟩:=gQ h;simp only[Nd.den,valsOf,gB,aZ]at c;subst c;exact⟨_,d,rfl,by simp only[VR]at e;simp only[GR];exact .inl ⟨trivial,_,e⟩⟩
def U1:∀{l:Q3}{c:Q2}{vs:Q6},nodesOf l=some c->aF H l vs->∃gs,valsOf aI.val c=some gs/\gs.all GV.scalar=true/\aP H.ro gs vs
 |[],c,vs,h,b=>by simp only[nodesOf,aZ]at h;subst h;simp only[aF]at b;subst b;exact⟨[],rfl,rfl,by simp[aP]⟩
 |a::l,c,vs,h,b=>by
  simp only[nodesOf]at h;split at h
  ·next n r d e=>
   cases h;simp only[aF]at b;obtain⟨x,xs,rfl,h1,f⟩:=b;obtain⟨g,g1,g2,i⟩:=mD d h1;obtain⟨gs,j,k,m⟩:=U1 e f;exact⟨g::gs,by simp only[valsOf,g1,j],by simp[g2,k],by simp only[aP];exact⟨x,xs,rfl,i,m⟩⟩
  ·cases h
def Kt{a:AV}{n:Nat}{v:Value}(h:EL a=some n)(d:VR H a v):∃l gs,a=.agg l/\gs.length=l.length/\aI.val n=some (.g gs)/\gs.all GV.scalar=true/\GR H.ro (.g gs) v:=by
 unfold EL at h;split at h
 ·next l=>
  split at h
  ·next k c=>
   simp only[VR]at d;obtain⟨i,rfl,b⟩:=d;obtain⟨gs,g1,g2,e⟩:=U1 c b;obtain⟨g,j,f⟩:=gQ h;simp only[Nd.den,g1,g2,if_true,aZ]at f;subst f;exact⟨l,gs,rfl,by rw[e.length,b.length],j,g2,by simp only[GR];exact⟨i,rfl,e⟩⟩
  ·cases h
 ·cases h
def aze{c:BinOp}{t:TypeId}{x y:Operand}{k d:IntKind}{a b:Int}{w:World}:(eqGuard c t x y (.int k a) (.int d b)).run P w=.ok () w:=by unfold eqGuard;cases c<;>rfl
def azf{c:BinOp}{t:TypeId}{x y:Operand}{a b:ByteArray}{w:World}:(eqGuard c t x y (.string a) (.string b)).run P w=.ok () w:=by unfold eqGuard;cases c<;>rfl
def auj{c:BinOp}{t:TypeId}{k:IntKind}{a b:Int}{g:GV}(h1:c≠.shl)(d:c≠.shr)(h:gG c k a b=some g):g.scalar=true/\∃z,(binOp c t (.int k a) (.int k b)).run P w=.ok z w/\GR H.ro g z:=by
 cases c<;>simp only[gG,reduceCtorEq]at h
 all_goals first|(exact absurd rfl h1)|(exact absurd rfl d)|(cases h;done)|skip
 all_goals first
  |(cases h;refine⟨rfl,?_⟩;simp only[binOp,ne_eq,not_true_eq_false,if_false,Op.intArith,Op.intCmp,Op.intBits];exact⟨_,rfl,by simp only[GR]⟩)
  |(split at h;cases h;cases h;next e=>refine⟨rfl,?_⟩;simp only[binOp,ne_eq,not_true_eq_false,if_false,Op.intDiv,e];exact⟨_,rfl,by simp only[GR]⟩)
def ajd{c:BinOp}{t:TypeId}{k e:IntKind}{a b:Int}{g:GV}(f:c=.shl\/c=.shr)(h:oW c k a b=some g):g.scalar=true/\∃z,(binOp c t (.int k a) (.int e b)).run P w=.ok z w/\GR H.ro g z:=by
 unfold oW at h;split at h
 ·cases h
 ·next d=>
  rcases f with rfl|rfl
  ·cases h;refine⟨rfl,?_⟩;simp only[binOp,Op.shift,ah d];exact⟨_,rfl,by simp only[GR]⟩
  ·cases h;refine⟨rfl,?_⟩;simp only[binOp,Op.shift,ah d];exact⟨_,rfl,by simp only[GR]⟩
def aBI{c:BinOp}{t:TypeId}{a b:Q0}{g:GV}(h:xu c a b=some g):g.scalar=true/\∃z,(binOp c t (.string ⟨⟨a⟩⟩) (.string ⟨⟨b⟩⟩)).run P w=.ok z w/\GR H.ro g z:=by
 cases c<;>simp only[xu,reduceCtorEq]at h
 all_goals first|(cases h;done)|skip
 all_goals first|(cases h;refine⟨rfl,?_⟩;simp only[binOp,Op.stringOp,toList_mk];exact⟨_,rfl,by simp only[GR]⟩)|skip
 split at h
 ·next d=>
  cases h;have:¬(((⟨⟨a⟩⟩:ByteArray).size+(⟨⟨b⟩⟩:ByteArray).size:Nat):Int)>IntKind.i64.max:=by rw[strSize,strSize];omega
  refine⟨rfl,?_⟩;simp only[binOp,Op.stringOp,ah this,adg];exact⟨_,rfl,by simp only[GR]⟩
 ·cases h
def alg{d:BinOp}{t:TypeId}{x y:Operand}{g1 g2 g:GV}{u e:Value}(h:iD d g1 g2=some g)(h1:GR H.ro g1 u)(c:GR H.ro g2 e):
 g.scalar=true/\∃z,(do eqGuard d t x y u e;binOp d t u e:Sem Value).run P w=.ok z w/\GR H.ro g z:=by
 unfold iD at h;split at h
 ·next k a l b=>
  simp only[GR]at h1 c;subst h1;subst c;simp only[aT,aze,aQ];split at h
  ·exact ajd (.inl rfl) h
  ·exact ajd (.inr rfl) h
  ·next f i=>
   split at h
   ·next j=>subst j;exact auj f i h
   ·cases h
 ·next a b=>
  simp only[GR]at h1 c;subst h1;subst c;simp only[aT,azf,aQ];exact aBI h
 ·cases h
def aeO{t:TypeId}(c:P.underlying t=some .bool)(a b:Bool):(Op.equal t (.bool a) (.bool b)).run P w=.ok (a==b) w:=by
 have d:∀n,(Op.equalIn (n+1) t (.bool a) (.bool b)).run P w=.ok (a==b) w:=λn=>by simp only[Op.equalIn,aT,bf c,aQ,bF]
 exact d 9999
def ale{c:BinOp}{t:TypeId}{x y:Operand}{g1 g2 g:GV}{u d:Value}(e:P.underlying t=some .bool)(h:RN c g1 g2=some g)(h1:GR H.ro g1 u)(f:GR H.ro g2 d):
 g.scalar=true/\∃z,(do eqGuard c t x y u d;binOp c t u d:Sem Value).run P w=.ok z w/\GR H.ro g z:=by
 unfold RN at h;split at h
 ·next a b=>
  simp only[GR]at h1 f;subst h1;subst f;split at h
  ·cases h;exact⟨rfl,_,qR (aeO e a b) rfl rfl,by simp only[GR]⟩
  ·cases h;exact⟨rfl,_,qU (aeO e a b) rfl rfl,by simp only[GR]⟩
  ·cases h
 ·cases h
def aeP{w:World}(d:Nat):∀(fs:List Field)(k:Nat)(E:Q2)(xs p:Q6)(gs m:Q1)(r:Bool),MB P fs k=some E->aP H.ro gs (xs.drop k)->aP H.ro m (p.drop k)->nG E gs m=some r->
 (Op.eqFields (d+1) ⟨xs⟩ ⟨p⟩ fs).run P w=.ok r w
 |[],k,E,xs,p,gs,m,r,n,_,_,c=>by
  simp only[MB,aZ]at n;subst n;cases gs with
  |cons g gs=>simp[nG]at c
  |nil=>
   cases m with
   |cons g gs=>simp[nG]at c
   |nil=>simp only[nG,aZ]at c;subst c;simp[Op.eqFields]
 |f::fs,k,E,xs,p,gs,m,r,n,X,Y,c=>by
  simp only[MB]at n;split at n
  ·next Z=>
   rw[aK,zf]at Z;obtain⟨hn,ho⟩:=Z;have G:=bH ho;split at n
   ·next a v o I=>
    cases n;cases gs with
    |nil=>simp[nG]at c
    |cons g gs=>
    cases m with
    |nil=>simp[nG]at c
    |cons L m=>
    simp only[aP]at X Y;obtain⟨u,us,x,t,M⟩:=X;obtain⟨u',N,y,j,O⟩:=Y;have Q:xs[k]? =some u:=by rw[<-List.head?_drop,x];rfl
    have S:p[k]? =some u':=by rw[<-List.head?_drop,y];rfl
    have T:us=xs.drop (k+1):=by have:=tX (List.drop 1) x;simpa[nP]using this.symm
    have U:N=p.drop (k+1):=by have:=tX (List.drop 1) y;simpa[nP]using this.symm
    have A:oO P f.type=some false:=by unfold aaV at o;unfold oO;split at o<;>first|(next h=>rw[h])|(cases o)
    have l:∀(F:Q6) z,F[k]? =some z->(part f.type ⟨F⟩ f.offset).run P w=.ok z w:=by
     intro F z hz;unfold part;simp only[aT,Jw A,aQ,gy,if_false];have:(⟨F⟩:QQ)[f.offset]? =some z:=by rw[G];simpa using hz
     simp only[this,bF]
    have V:(f.name ≠ "_"):=by intro e;rw[e]at hn;simp at hn
    have q:∀b s,(Op.equalIn (d+1) f.type u u').run P w=.ok b w->nG v gs m=some s->(Op.eqFields (d+1) ⟨xs⟩ ⟨p⟩ (f::fs)).run P w=.ok (b&&s) w:=by
     intro b s hb i;have B:=aeP (w:=w) d fs (k+1) v xs p gs m s I (by rw[<-T];exact M) (by rw[<-U];exact O) i;simp only[Op.eqFields,aj V,aT,l _ _ Q,l _ _ S,aQ,hb];cases b with
     |true=>simpa using B
     |false=>simp
    unfold aaV at o;split at o
    ·next kk D=>
     cases o;cases g<;>cases L<;>simp only[nG,reduceCtorEq]at c
     split at c
     ·next W=>
      subst W;obtain⟨s,i,rfl⟩:=bg.1 c;simp only[GR]at t j;subst t;subst j;exact q _ _ (run_equalIn_int w d _ _ _ _ _ D) i
     ·cases c
    ·next D=>
     cases o;cases g<;>cases L<;>simp only[nG,reduceCtorEq]at c
     obtain⟨s,i,rfl⟩:=bg.1 c;simp only[GR]at t j;subst t;subst j;refine q _ _ ?_ i;rw[run_equalIn_string w d _ _ _ D,toList_mk,toList_mk]
    ·next D=>
     cases o;cases g<;>cases L<;>simp only[nG,reduceCtorEq]at c
     obtain⟨s,i,rfl⟩:=bg.1 c;simp only[GR]at t j;subst t;subst j;exact q _ _ (run_equalIn_bool' w d _ _ _ D) i
    ·cases o
   ·cases n
  ·cases n
def alf{k:BinOp}{t:TypeId}{x y:Operand}{fs:Array Field}{i:Q2}{g1 g2 g:GV}{u l:Value}(o:P.underlying t=some (.struct fs))(m:P.stoodInHeld t=false)(c:P.eqGuardType P.depth t=false)(s:MB P fs.toList 0=some i)
 (h:Ky k i g1 g2=some g) (h1:GR H.ro g1 u) (j:GR H.ro g2 l):
 g.scalar=true/\∃z,(do eqGuard k t x y u l;binOp k t u l:Sem Value).run P w=.ok z w/\GR H.ro g z:=by
 unfold Ky at h;split at h
 ·next a b=>
  simp only[GR]at h1 j;obtain⟨p,rfl,h1⟩:=h1;obtain⟨q,rfl,j⟩:=j;have d:P.fieldsOf t=fs:=by unfold Program.fieldsOf;rw[o]
  have n:P.underlying t=some (.struct (P.fieldsOf t)):=by rw[d];exact o
  have e:∀r,nG i a b=some r->(Op.equalIn 10000 t (.agg ⟨p⟩) (.agg ⟨q⟩)).run P w=.ok r w:=by intro r f;rw[run_equalIn_agg w 9999 t _ _ n m,d];exact aeP (H:=H) 9998 fs.toList 0 i p q a b r s (by simpa using h1) (by simpa using j) f
  split at h
  ·obtain⟨r,f,rfl⟩:=bg.1 h;refine⟨rfl,.bool r,?_,by simp only[GR]⟩;simp only[aT,run_eqGuard_agg w .eql t x y _ _ c,aQ,run_eql_struct,e r f]
  ·obtain⟨r,f,rfl⟩:=bg.1 h;refine⟨rfl,.bool (!r),?_,by simp only[GR]⟩;simp only[aT,run_eqGuard_agg w .neq t x y _ _ c,aQ,run_neq_struct,e r f]
  ·cases h
 ·cases h
def aBO{p:BinOp}{t:TypeId}{x y:Operand}{a b v:AV}{u r:Value}(c:VO P p t a b=some v)(f:VR H a u)(j:VR H b r):
 ∃z,(do eqGuard p t x y u r;binOp p t u r:Sem Value).run P w=.ok z w/\VR H v z:=by
 unfold VO at c
 have B:∀{m n:Nat}{Q:Nd},kK Q=some v->(∀g,Q.den aI.I aI.val=some g->g.scalar=true/\∃z,(do eqGuard p t x y u r;binOp p t u r:Sem Value).run P w=.ok z w/\GR H.ro g z)->
  ∃z,(do eqGuard p t x y u r;binOp p t u r:Sem Value).run P w=.ok z w/\VR H v z:=by
  intro m n Q D X;obtain⟨_,g,_,Y,Z⟩:=mW (H:=H) D;obtain⟨h4,z,h5,h6⟩:=X g Y;exact⟨z,h5,Z z h4 h6⟩
 have E:(match iU a,iU b with|some x,some y=>kK (.bin p x y)|_,_=>none)=some v->∃z,(do eqGuard p t x y u r;binOp p t u r:Sem Value).run P w=.ok z w/\VR H v z:=by
  intro c;split at c
  ·next m n D F=>
   obtain⟨g1,G,U,I⟩:=mD D f;obtain⟨g2,L,V,M⟩:=mD F j;refine B (m:=m) (n:=n) c λg s=>?_;simp only[Nd.den,G,L]at s;exact alg s I M
  ·cases c
 split at c
 ·exact E c
 ·exact E c
 ·next d=>
  split at c
  ·next m n D F=>
   obtain⟨g1,G,U,I⟩:=mD D f;obtain⟨g2,L,V,M⟩:=mD F j;refine B (m:=m) (n:=n) c λg s=>?_;simp only[Nd.den,G,L]at s;exact ale d s I M
  ·cases c
 ·next fs d=>
  split at c
  ·next S=>
   rw[aK,zf,zf]at S;split at c
   ·next ks m n T D F=>
    obtain⟨l1,g1,_,_,G,U,I⟩:=Kt D f;obtain⟨l2,g2,_,_,L,V,M⟩:=Kt F j;refine B (m:=m) (n:=n) c λg s=>?_;simp only[Nd.den,G,L]at s;exact alf d S.1 S.2 T s I M
   ·cases c
  ·cases c
 ·next e d=>
  have N:∀{m l:Nat}{u:Value},VR H (.rx m l) u->∃o,u=.pointer (some o):=by intro m l u h;simp only[VR]at h;obtain⟨g,bl,base,cs,W,fr,y,_,_,_,rfl,_⟩:=h;exact⟨_,rfl⟩
  have O:∀{id m l:Nat}{u:Value},VR H (.pv id m l) u->∃o,u=.pointer (some o):=by intro id m l u h;simp only[VR]at h;obtain⟨q,k,i,_,_,rfl⟩:=h;exact⟨_,rfl⟩
  have A:∀{u:Value},VR H .jD u->u=.pointer none:=by intro u h;simpa only[VR]using h
  split at c<;>cases c
  ·obtain⟨o,rfl⟩:=N f;have:=A j;subst this;exact⟨_,qR (Fa d _) rfl rfl,by simp only[VR]⟩
  ·obtain⟨o,rfl⟩:=N j;have:=A f;subst this;exact⟨_,qR (E9 d _) rfl rfl,by simp only[VR]⟩
  ·obtain⟨o,rfl⟩:=N f;have:=A j;subst this;exact⟨_,qU (Fa d _) rfl rfl,by simp only[VR];rfl⟩
  ·obtain⟨o,rfl⟩:=N j;have:=A f;subst this;exact⟨_,qU (E9 d _) rfl rfl,by simp only[VR];rfl⟩
  ·obtain⟨o,rfl⟩:=O f;have:=A j;subst this;exact⟨_,qR (Fa d _) rfl rfl,by simp only[VR]⟩
  ·obtain⟨o,rfl⟩:=O j;have:=A f;subst this;exact⟨_,qR (E9 d _) rfl rfl,by simp only[VR]⟩
  ·obtain⟨o,rfl⟩:=O f;have:=A j;subst this;exact⟨_,qU (Fa d _) rfl rfl,by simp only[VR];rfl⟩
  ·obtain⟨o,rfl⟩:=O j;have:=A f;subst this;exact⟨_,qU (E9 d _) rfl rfl,by simp only[VR];rfl⟩
 ·cases c
def aCs{b:UnOp}{g a:GV}{u:Value}(h:Wl b g=some a)(h1:GR H.ro g u):a.scalar=true/\∃z,(Op.unary b u).run P w=.ok z w/\GR H.ro a z:=by
 unfold Wl at h;split at h
 ·simp only[GR]at h1;subst h1;split at h
  ·cases h;exact⟨rfl,_,rfl,by simp only[GR]⟩
  ·cases h
 ·simp only[GR]at h1;subst h1;split at h
  ·cases h;exact⟨rfl,_,rfl,by simp only[GR]⟩
  ·simp only[gG,aZ]at h;subst h;exact⟨rfl,_,rfl,by simp only[GR]⟩
  ·cases h
 ·cases h
def aB0{c:UnOp}{a v:AV}{u:Value}(b:MS c a=some v)(d:VR H a u):∃z,(Op.unary c u).run P w=.ok z w/\VR H v z:=by
 unfold MS at b;split at b
 ·next n=>
  obtain⟨_,g,_,e,f⟩:=mW (H:=H) b;simp only[VR]at d;obtain⟨g0,h,m,i⟩:=d;simp only[Nd.den,h]at e;obtain⟨j,z,k,l⟩:=aCs (P:=P) (w:=w) e i;exact⟨z,k,f z j l⟩
 ·cases b
def SR.swap(h:SR P H J w){id:Nat}{o o':bC}(n:J.get id=some o)(p:o'.own=o.own)(r:Live P H w id o'):SR P H (J.put id o') w:=by
 have b:∀k u,(J.put id o').get k=some u->∃c,J.get k=some c/\u.own=c.own:=by
  intro k u a;rw[aA.get_put]at a;split at a
  ·next e=>cases a;subst e;exact⟨o,n,p⟩
  ·exact⟨u,a,rfl⟩
 refine⟨h.nH,h.dom,λk u a=>?_,h.jT,λk u m c q s d f g i t x=>?_,h.ji,λk u q d f g=>?_,h.tabs⟩
 ·rw[aA.get_put]at a;split at a
  ·next e=>cases a;subst e;exact r
  ·exact h.live k u a
 ·obtain⟨v,j,l⟩:=b k u d;obtain⟨y,z,A⟩:=b m c g;exact h.sep k v m y q s j (l▸f) z i t x
 ·obtain⟨v,j,l⟩:=b k u d;exact h.lS k v q j (l▸f) g
def St.left{H':Env}{τ:aA}{w':World}(h:St P H τ w H' J' w')(a:τ.lock=J.lock)(z:τ.next=J.next)(f:∀k u,τ.get k=some u->u.own=true->∃A,J.get k=some A/\A.own=true):St P H J w H' J' w':=by
 refine⟨h.ext,h.rel,h.size,λB g i=>h.keep B g λk u q j l m n=>?_,λk u q j l m n=>?_,h.os,h.tape,h.output,h.lock.trans a,z▸h.next,z▸h.new,λb g=>?_⟩
 ·obtain⟨v,c,d⟩:=f k u j l;exact i k v q c d (a▸m) n
 ·rcases h.own k u q j l (a▸m) n with h1|⟨e,o,p,c,d,r,s,t⟩
  ·exact .inl h1
  ·obtain⟨v,x,y⟩:=f e o c d;exact .inr ⟨e,v,p,x,y,a▸r,s,t⟩
 ·rcases h.qK b g with h1|h1|⟨e,o,p,c,d,r,s,t⟩
  ·exact .inl h1
  ·exact .inr (.inl h1)
  ·obtain⟨v,x,y⟩:=f e o c d;exact .inr (.inr ⟨e,v,p,x,y,a▸r,s,t⟩)
def St.right{H':Env}{τ:aA}{w':World}(h:St P H J w H' J' w')(rel:SR P H' τ w')(c:τ.lock=J'.lock)(a:τ.next=J'.next)(d:∀k u,τ.get k=some u->u.own=true->∃b,J'.get k=some b/\b.own=true):St P H J w H' τ w':=by refine⟨h.ext,rel,h.size,h.keep,λk u q e f g i=>?_,h.os,h.tape,h.output,c.trans h.lock,by rw[a];exact h.next,by rw[a];exact h.new,h.qK⟩;obtain⟨v,j,l⟩:=d k u e f;exact h.own k v q j l g i
def bM(xs:Q1):Q3:=dQ (xs.flatMap GV.cells)
def OY{xs:Q1}{sz:Nat}(h:∀x∈xs,x.cells.length=sz):(xs.flatMap GV.cells).length=xs.length*sz:=by
 induction xs with
 |nil=>simp
 |cons x xs a=>rw[jF,eX,h x (by simp),a (λy b=>h y (by simp[b])),jw,rH];omega
def arN{xs:Q1}{sz:Nat}(h:∀x∈xs,x.cells.length=sz)(i:Nat):(xs.flatMap GV.cells).drop (i*sz)=(xs.drop i).flatMap GV.cells:=by
 induction xs generalizing i with
 |nil=>simp
 |cons x xs b=>
  cases i with
  |zero=>simp
  |succ i=>have a:=h x (by simp);rw[jF,acA,cO (by rw[a,rH];omega),a,aW,WM,<-b (λy c=>h y (by simp[c]))];congr 1;rw[rH];omega
def arM{xs:Q1}{sz i:Nat}{x:GV}(h:∀x∈xs,x.cells.length=sz)(hi:xs[i]? =some x):((xs.flatMap GV.cells).drop (i*sz)).take sz=x.cells:=by
 rw[arN h];have:xs.drop i=x::xs.drop (i+1):=by obtain⟨a,rfl⟩:=fB.1 hi;exact dF a
 have b:=h x (qp hi);rw[this,jF,QO (by omega),lW (by omega)]
def TW(l:Q1)(n:Nat):dQ (l.take n)=(dQ l).take n:=by rw[wQ,wQ,WX]
def TV(l:Q1)(n:Nat):dQ (l.drop n)=(dQ l).drop n:=by rw[wQ,wQ,WW]
def IL(l m:Q1):dQ (l++m)=dQ l++dQ m:=by rw[wQ,wQ,wQ,jG]
def ungroup:∀(xs:Q1)(vs:Q6),aF H (bM xs) vs->(∀x∈xs,x.cells.all GV.scalar=true)->∃a,aP H.ro xs a/\dS a=vs/\∀(k:Nat) x y,xs[k]? =some x->a[k]? =some y->y.cells.size=x.cells.length
 |[],vs,h,_=>by simp only[bM,List.flatMap_nil,dQ,aF]at h;subst h;exact⟨[],by simp[aP],rfl,by simp⟩
 |x::xs,vs,h,i=>by
  have n:aF H (dQ x.cells++bM xs) vs:=by rw[bM,jF,IL]at h;exact h
  have c:=n.take x.cells.length;have o:=n.drop x.cells.length;rw[QO (by rw[l9];omega),lW (by rw[l9];omega)]at c;rw[WI (by rw[l9];omega),cO (by rw[l9];omega),aW]at o;obtain⟨a,g1,g2,q⟩:=ungroup xs _ o (λy j=>i y (by simp[j]));have l:=c.length;rw[l9]at l;have d:∀y,GR H.ro x y->y.cells.toList=vs.take x.cells.length->∃a,aP H.ro (x::xs) a/\dS a=vs/\∀(k:Nat) f y,(x::xs)[k]? =some f->a[k]? =some y->y.cells.size=f.cells.length:=by
   intro y j e;refine⟨y::a,by simp only[aP];exact⟨y,a,rfl,j,g1⟩,?_,?_⟩
   ·have:dS (y::a)=y.cells.toList++dS a:=by simp[dS]
    rw[this,e,g2,EF]
   ·intro k f r m b;cases k with
    |zero=>simp at m b;subst m;subst b;rw[l,<-e];simp
    |succ k=>exact q k f r (by simpa using m) (by simpa using b)
  cases x with
  |g s=>exact d (.agg ⟨vs.take s.length⟩) (by simp only[GR];exact⟨_,rfl,(oH _ _).2 c⟩) rfl
  |_=>simp only[GV.cells,dQ,aF,jw,nZ]at c l;obtain⟨u,v,t,p,rfl⟩:=c;refine d u ((lV _ _).2 p) ?_;rw[ahl (GR.pX ((lV _ _).2 p) rfl)];exact t.symm
def aP.scalars{ro:Qf}:∀{gs:Q1}{vs:Q6},aP ro gs vs->(∀v∈vs,pX v=true)->gs.all GV.scalar=true
 |[],_,_,_=>rfl
 |g::gs,vs,h,a=>by
  simp only[aP]at h;obtain⟨x,xs,rfl,h1,b⟩:=h;simp only[sW,aK];refine⟨?_,aP.scalars b λv c=>a v (by simp[c])⟩;cases g with
  |g d=>simp only[GR]at h1;obtain⟨vs,rfl,_⟩:=h1;have:=a (.agg ⟨vs⟩) (by simp);simp[pX]at this
  |_=>rfl
def OR.LW{q:Place}{m d:Nat}{f:Bool}(h:OR P H q w (.vec m d f)):∃xs,aI.val m=some (.l xs)/\(∀x∈xs,x.cells.length=q.es)/\d≠0/\0<q.es/\sizeT P d=some q.es/\xs.length*q.es<=q.sz/\(∀x∈xs,x.cells.all GV.scalar=true)/\OR P H q w (.cells (bM xs) d true true):=by
 obtain⟨xs,n,b,o,p,s,t,j,u,z,l,r,A,_⟩:=h;obtain⟨B,D,E⟩:=r.room rfl;have c:∀x∈xs,x.cells.length=q.es:=by intro x F;obtain⟨k,e⟩:=Nw F;obtain⟨y,G,g⟩:=j.at e;rw[g.ad2];exact u y (qp G)
 have i:aF H (bM xs) (dS p):=by rw[bM,<-YO];exact ae6 ((oH _ _).1 j)
 refine⟨xs,s,c,B,D,E,l,A,n,b,o,t,{fits:=r.fits,le:=by rw[bM,l9,OY c];exact l,shut:=by simp,cell:=λk a e=>?_,free:=r.free,whole:=r.whole,room:=r.room}⟩;obtain⟨v,g,I⟩:=i.at e;exact⟨v,z k v g,I⟩
def OR.Wq{q:Place}{m b:Nat}(h:OR P H q w (.vec m b true)):q.es<=q.sz:=by obtain⟨d,e,a,f,g,i,j,k,l,n,o,r,p,c⟩:=h;exact c rfl
def OR.yw{q:Place}{m o:Nat}{f:Bool}{xs:Q1}(v:f=true->q.es<=q.sz)(j:aI.val m=some (.l xs))(d:∀x∈xs,x.cells.length=q.es)(e:∀x∈xs,x.cells.all GV.scalar=true){c:Q3}(h:OR P H q w (.cells c o true true))(z:∀vs,aF H c vs->aF H (bM xs) vs):OR P H q w (.vec m o f):=by
 obtain⟨p,g,A,B,r⟩:=h;have s:=r.fits;have D:=r.le;have l:aF H c ((p.toList.drop q.ba).take c.length):=by refine aF.of (by simp;omega) λk a b=>?_;obtain⟨x,E,j⟩:=r.cell k a b;have n:=(fB.1 b).1;exact⟨x,by rw[mG,aj n,rF];simpa using E,j⟩
 have t:=z _ l;obtain⟨F,g1,g2,G⟩:=ungroup xs _ t e;have u:xs.length*q.es=c.length:=by have:=t.length;rw[bM,l9,OY d]at this;rw[this];simp;omega
 refine⟨xs,p,g,A,F,j,B,g1,λy I=>?_,λk x b=>?_,by omega,{fits:=r.fits,le:=by simp,shut:=by simp,cell:=by simp,free:=r.free,whole:=r.whole,room:=r.room},e,v⟩
 ·obtain⟨k,b⟩:=Nw I;have i:k<xs.length:=by rw[g1.length];exact(fB.1 b).1
  rw[G k _ y (bP i) b];exact d _ (dW i)
 ·rw[g2,mG]at b;split at b
  ·rw[rF]at b;simpa using b
  ·cases b
def kV(J:aA)(id:Nat)(xs:Q1)(a:TypeId):aA:=J.put id (.cells (bM xs) a true true)
def Na(h:SR P H J w){id m a:Nat}{f:Bool}{q:Place}(b:J.get id=some (.vec m a f))(c:H id=some q):∃xs,aI.val m=some (.l xs)/\(∀x∈xs,x.cells.length=q.es)/\a≠0/\0<q.es/\sizeT P a=some q.es/\xs.length*q.es<=q.sz/\(∀x∈xs,x.cells.all GV.scalar=true)/\SR P H (kV J id xs a) w:=by obtain⟨xs,d,e,g,i,j,k,l,n⟩:=(h.at b c).LW;exact⟨xs,d,e,g,i,j,k,l,h.swap b rfl (.inl ⟨q,c,n⟩)⟩
def Et{id:Nat}{xs:Q1}{a:TypeId}:(kV J id xs a).get id=some (.cells (bM xs) a true true):=by unfold kV;rw[aA.get_put,aj rfl]
def Qs{H':Env}{w':World}{id m b:Nat}{f:Bool}{xs:Q1}(c:J.get id=some (.vec m b f))(h:St P H (kV J id xs b) w H' J' w'):St P H J w H' J' w':=by
 refine h.left rfl rfl λk u a d=>?_;unfold kV at a;rw[aA.get_put]at a;split at a
 ·next e=>subst e;exact⟨_,c,rfl⟩
 ·exact⟨u,a,d⟩
def aCy{H':Env}{w':World}{id m c:Nat}{f:Bool}{q:Place}{xs:Q1}(j:f=true->q.es<=q.sz)(l:J.get id=some (.vec m c f))(n:H id=some q)(p:aI.val m=some (.l xs))(d:∀x∈xs,x.cells.length=q.es)(g:∀x∈xs,x.cells.all GV.scalar=true)(h:St P H J w H' (kV J id xs c) w'):St P H J w H' J w':=by
 have a:=h.ext.pl _ _ n;have i:=OR.yw j p d g (h.rel.at Et a) (λ_ h=>h);refine h.right ((h.rel.swap (o':=.vec m c f) Et rfl (.inl ⟨q,a,i⟩)).sub (λk o b=>?_) (dY _)) rfl rfl (λk o b r=>?_)
 ·unfold kV;rw[aA.get_put,aA.get_put];split
  ·next e=>rw[e,l]at b;exact b
  ·exact b
 ·unfold kV;rw[aA.get_put];split
  ·exact⟨_,rfl,rfl⟩
  ·exact⟨o,b,r⟩
def Sv{m:Nat}{g:GV}(j:aI.val m=some g):∀(n off:Nat){l:Q3},Io m off n=some l->∃r,takeN (dQ g.cells) off n=some r/\∀vs,aF H r vs->aF H l vs
 |0,off,l,h=>by simp only[Io,aZ]at h;subst h;exact⟨[],by simp[takeN],λ_ h=>h⟩
 |n+1,off,l,h=>by
  simp only[Io]at h;split at h
  ·next a r p q=>
   cases h;obtain⟨_,f,_,b,s⟩:=mW (H:=H) p;simp only[Nd.den,j]at b;split at b
   ·next c k=>
    split at b
    ·next t=>
     cases b;obtain⟨u,v,y⟩:=Sv j n (off+1) q;obtain⟨z,A,I⟩:=ru v;refine⟨lJ f::u,?_,?_⟩
     ·have B:off<g.cells.length:=(fB.1 k).1;have D:(dQ g.cells).drop off=lJ f::(dQ g.cells).drop (off+1):=by
       have d:(dQ g.cells)[off]? =some (lJ f):=by rw[O1,k];rfl
       obtain⟨i,E⟩:=fB.1 d;rw[dF i,E]
      unfold takeN;simp only[D,AA,<-z,jw,A,if_true]
     ·intro vs e;simp only[aF]at e⊢;obtain⟨x,o,rfl,F,G⟩:=e;exact⟨x,o,rfl,s x t ((lV _ _).2 F),y o G⟩
    ·cases b
   ·cases b
  ·cases h
def abL{t:TypeId}{m off:Nat}{g:GV}{v:AV}(f:aI.val m=some g)(h:Qo P t m off=some v):∃r,(match oO P t with
 |some true=>match sizeT P t with
  |some n=>(takeN (dQ g.cells) off n).map .agg
  |none=>none
 |some false=>(dQ g.cells)[off]?
 |none=>none)=some r/\∀y,VR H r y->VR H v y:=by
 unfold Qo at h;split at h
 ·next d=>
  split at h
  ·next n j=>
   obtain⟨l,k,rfl⟩:=bg.1 h;obtain⟨r,o,a⟩:=Sv (H:=H) f n off k;rw[d,j];refine⟨.agg r,by simp[o],λy b=>?_⟩;simp only[VR]at b⊢;obtain⟨i,rfl,e⟩:=b;exact⟨i,rfl,a i e⟩
  ·cases h
 ·next d=>
  obtain⟨_,p,_,a,e⟩:=mW (H:=H) h;simp only[Nd.den,f]at a;split at a
  ·next c q=>
   split at a
   ·next s=>
    cases a;rw[d];exact⟨lJ p,by simp only;rw[O1,q];rfl,λy b=>e y s ((lV _ _).2 b)⟩
   ·cases a
  ·cases a
 ·cases h
def aBV(h:SR P H J w){t:TypeId}{a v:AV}{x:Value}(d:VW P t J a=some v)(D:VR H a x):∃y,(Instr.loadAt t x).run P w=.ok y w/\VR H v y:=by
 unfold VW at d;split at d
 ·next m b=>
  simp only[VR]at D;obtain⟨g,U,base,cs,s,fr,u,F,G,V,rfl,W⟩:=D;obtain⟨r,l,I⟩:=abL (H:=H) F d;have L:VR H (.rp (lJ g) b) (.pointer (some ⟨U,base+b,none⟩)):=by simp only[VR];exact⟨U,base,cs,s,fr,u,G,(lV _ _).1 V,rfl,W⟩
  have M:vY P t J (.rp (lJ g) b)=some r:=by simp only[vY,Lm];exact l
  obtain⟨y,p,N⟩:=FM h M L;exact⟨y,p,I y N⟩
 ·next id i b=>
  split at d
  ·next m et _ hg=>
   split at d
   ·next X O=>
    split at d
    ·next e he=>
     simp only[VR]at D;obtain⟨q,k,j,Y,hj,rfl⟩:=D;obtain⟨E,F,G,V,W,p,_,_,hS⟩:=Na h hg Y;rw[O]at p;cases p;obtain⟨g,g1,g2⟩:=gQ he;simp only[Nd.den,F,hj]at g2;split at g2
     ·next aa=>
      split at g2
      ·next x Q=>
       split at g2
       ·next z=>
        cases g2;obtain⟨r,l,I⟩:=abL (H:=H) g1 d;have A:=arM G Q;have o:∀n f,takeN (dQ g.cells) b n=some f->takeN (bM E) (j.toNat*q.es+b) n=some f:=by
         intro n f c;obtain⟨e1,e2,Z⟩:=ru c;rw[l9]at Z;have:((bM E).drop (j.toNat*q.es+b)).take n=f:=by rw[<-nP,bM,<-TV,e1,<-A,TW,Aw,acO];congr 1;rw[z]at Z;omega
         unfold takeN;simp only[this,e2,if_true]
        have B:∀f,(dQ g.cells)[b]? =some f->(bM E)[j.toNat*q.es+b]? =some f:=by
         intro f c;have S:b<q.es:=by have:=(fB.1 c).1;rw[l9,z]at this;exact this
         rw[<-A,TW,mG,aj S,TV,rF]at c;exact c
        have M:vY P t (kV J id E et) (.p id (j.toNat*q.es+b))=some r:=by
         simp only[vY,Et];split at l
         ·next T=>
          rw[T];split at l
          ·next n hn=>
           rw[hn];obtain⟨f,c,rfl⟩:=bg.1 l;simp only[o n f c,gB]
          ·cases l
         ·next T=>rw[T];exact B r l
         ·cases l
        obtain⟨y,p,N⟩:=FM hS M (x:=.pointer (some ⟨q.bl,q.ba+j.toNat*q.es+b,none⟩)) (by simp only[VR];exact⟨q,Y,by rw[jH]⟩);exact⟨y,p,I y N⟩
       ·cases g2
      ·cases g2
     ·cases g2
    ·cases d
   ·cases d
  ·cases d
 ·cases d
def aBR{t:TypeId}{a v:AV}{x:Value}{f:Nat}(h:VQ P t a f=some v)(d:VR H a x):∃y,(Instr.fieldAt t x f).run P w=.ok y w/\VR H v y:=by
 unfold VQ at h;split at h
 ·next e j=>
  split at h
  ·next l o=>
   split at h
   ·next n p=>
    split at h
    ·cases h
    ·next r=>
     split at h
     ·next m b=>
      cases h;simp only[VR]at d;obtain⟨g,s,base,z,c,A,u,B,D,E,rfl,F⟩:=d;refine⟨.pointer (some ⟨s,base+b+l.offset,none⟩),?_,?_⟩
      ·simp[Instr.fieldAt,bf j,o,Instr.sureAddr,fieldPlace,jd p,r,qy]
      ·simp only[VR];exact⟨g,s,base,z,c,A,u,B,D,E,by rw[jH],F⟩
     ·next id m b=>
      cases h;simp only[VR]at d;obtain⟨q,k,i,G,hi,rfl⟩:=d;refine⟨.pointer (some ⟨q.bl,q.ba+i.toNat*q.es+b+l.offset,none⟩),?_,?_⟩
      ·simp[Instr.fieldAt,bf j,o,Instr.sureAddr,fieldPlace,jd p,r,qy]
      ·simp only[VR];exact⟨q,k,i,G,hi,by rw[jH]⟩
     ·cases h
   ·cases h
  ·cases h
 ·cases h
def Pz{i:Nat}{g:GV}{y:Value}(n:aI.val i=some g)(f:GR H.ro g y):∀{c j:Nat}{k:AV},I9 i c j=some k->∃(a:IntKind)(m:Int),k=.i .i64 m/\y=.int a m
 |0,j,k,h=>by cases h
 |c+1,j,k,h=>by
  unfold I9 at h;have o:∀{r v},kK (.zQ i j)=some r->(∀x,VR H r x->VR H (.b v) x)->∃(a:IntKind)(m:Int),g=.i a m/\decide (m=(j:Int))=v:=by
   intro r v b d;obtain⟨_,A,B,l,s⟩:=mW (H:=H) b;simp only[Nd.den,n]at l;cases g with
   |i a m=>simp only[aZ]at l;subst l;have:=d _ (s (.bool (decide (m=(j:Int)))) rfl (by simp only[GR]));simp only[VR]at this;cases this;exact⟨a,m,rfl,rfl⟩
   |_=>cases l
  have e:∀{r},kK (.zQ i j)=some r->(∀x,VR H r x->VR H (.b true) x)->some (AV.i .i64 (j:Int))=some k->∃(a:IntKind)(m:Int),k=.i .i64 m/\y=.int a m:=by
   intro r b d t;obtain⟨a,m,rfl,p⟩:=o b d;cases t;have p:m=(j:Int):=by simpa using p
   subst p;simp only[GR]at f;exact⟨a,_,rfl,f⟩
  split at h
  ·next b=>exact e b (λ_ h=>h) h
  ·next b=>exact Pz n f h
  ·next m b=>
   split at h
   ·next q=>
    obtain⟨v,d,u⟩:=Iz q;cases d;exact e b (λx z=>u H x z) h
   ·next q=>exact Pz n f h
   ·cases h
  ·cases h
def aBS(h:SR P H J w){t:TypeId}{a i v:AV}{x y:Value}(b:VU P J t a i=some v)(c:VR H a x)(Z:VR H i y):∃z,(Instr.indexAt t x y).run P w=.ok z w/\VR H v z:=by
 unfold VU at b;split at b
 ·next e F=>
  split at b
  ·next aa ni d G=>
   obtain⟨gi,p,i2,f⟩:=mD G Z;split at b
   ·next n=>
    obtain⟨m,I,rfl⟩:=bg.1 b;obtain⟨g,g1,g2⟩:=gQ I;simp only[VR]at c;obtain⟨gl,L,l2,l3⟩:=c;simp only[Nd.den,L,p]at g2;split at g2
    ·next o k j M N=>
     cases M;cases N;simp only[GR]at f;subst f;split at g2
     ·next A=>
      split at g2
      ·next z hz=>
       split at g2
       ·next O=>
        cases g2;have Q:yG P t (.ro (dQ o)) (.i k j)=some (.rp (lJ g) 0):=by
         have:(dQ o)[j.toNat]? =some (lJ g):=by rw[O1,hz];rfl
         simp only[yG,F,vX,d,aj A,this,Lm,l9,O,if_true]
        obtain⟨S,B,D⟩:=Pn (P:=P) (w:=w) Q ((lV (.l o) x).1 l3) (by simp only[VR]:VR H (.i k j) (.int k j));refine⟨S,B,?_⟩;simp only[VR]at D⊢;obtain⟨bl,base,cs,r,fr,u,k1,k2,k3,k4⟩:=D;exact⟨g,bl,base,cs,r,fr,u,g1,k1,(lV _ _).2 k2,k3,k4⟩
       ·cases g2
      ·cases g2
     ·cases g2
    ·cases g2
   ·next id n=>
    split at b
    ·next m et _ hg=>
     split at b
     ·next T=>
      have IW:=bH T;subst IW;obtain⟨m',I,rfl⟩:=bg.1 b;obtain⟨g,g1,g2⟩:=gQ I;simp only[VR]at c;obtain⟨o,L,c⟩:=c;simp only[Nd.den,L,p]at g2;split at g2
      ·next ab k j M N=>
       cases M;cases N;simp only[GR]at f;subst f;split at g2
       ·next A=>
        cases g2;rcases c with⟨q,E,U,rfl⟩|⟨_,rfl,_⟩
        ·obtain⟨_,_,_,_,_,B,_⟩:=(h.at hg E).LW;rw[d]at B;cases B;have Q:yG P t (.sl id 0 o.length none) (.i k j)=some (.p id (0+j.toNat*q.es)):=by simp only[yG,F,vX,d,aj A]
         obtain⟨S,D,h7⟩:=Pn (P:=P) (w:=w) (x:=.slice (some ⟨q.bl,q.ba,none⟩) o.length (q.sz/q.es)) Q (by simp only[VR];exact⟨q,E,by simpa using U,by simp⟩) (by simp only[VR]:VR H (.i k j) (.int k j));refine⟨S,D,?_⟩;simp only[VR]at h7⊢;obtain⟨q',s,rfl⟩:=h7;rw[E]at s;cases s;exact⟨q,.i64,j,E,g1,by simp⟩
        ·simp at A;omega
       ·cases g2
      ·cases g2
     ·cases b
    ·cases b
   ·next id V len W=>
    split at b
    ·next k X=>
     obtain⟨Y,m,rfl,rfl⟩:=Pz p f X;have l:yG P t (.sl id V len W) (.i Y m)=some v:=b;exact Pn l c (by simp only[VR])
    ·cases b
   ·cases b
  ·cases b
 ·next len e F=>
  split at b
  ·next ni hi=>
   obtain⟨g,p,_,f⟩:=mD hi Z;split at b
   ·next k X=>
    obtain⟨Y,m,rfl,rfl⟩:=Pz p f X;have l:yG P t a (.i Y m)=some v:=b;exact Pn l c (by simp only[VR])
   ·cases b
  ·cases b
 ·cases b
def aBU{t:TypeId}{ts:Wm}{ty:TypeId}{a v:AV}{x:Value}(r:ts[0]? =some t)(j:abK P t a=some v)(h:VR H a x):
 ∃y,(Builtin.len_ ts ty #[x]).run P w=.ok y w/\VR H v y:=by
 have m:∀s:Q0,P.underlying t=some .string->(Builtin.len_ ts ty #[.string ⟨⟨s⟩⟩]).run P w=.ok (.int .i64 s.length) w:=λs f=>by simp[Builtin.len_,r,bf f,goInt,strSize]
 have l:∀(e:TypeId) b (n c:Nat),P.underlying t=some (.slice e)->(Builtin.len_ ts ty #[.slice b n c]).run P w=.ok (.int .i64 n) w:=λe b n c f=>by simp[Builtin.len_,r,bf f,goInt]
 unfold abK at j;split at j
 ·next n f=>
  obtain⟨_,g,_,d,i⟩:=mW (H:=H) j;simp only[VR]at h;obtain⟨g0,o,u,k⟩:=h;simp only[Nd.den,o]at d;split at d
  ·next s p=>
   cases p;cases d;simp only[GR]at k;subst k;exact⟨_,m s f,i _ rfl (by simp only[GR])⟩
  ·cases d
 ·next e n f=>
  obtain⟨_,g,_,d,i⟩:=mW (H:=H) j;simp only[VR]at h;obtain⟨g0,o,u,k⟩:=h;simp only[Nd.den,o]at d;split at d
  ·next z p=>
   cases p;cases d;simp only[GR]at k;rcases k with⟨rfl,_,rfl⟩|⟨E,A,c,F,G,rfl,_⟩
   ·exact⟨_,l e _ _ _ f,i _ rfl (by simp only[GR];rfl)⟩
   ·exact⟨_,l e _ _ _ f,i _ rfl (by simp only[GR])⟩
  ·cases d
 ·next e id n f=>
  obtain⟨_,g,_,d,i⟩:=mW (H:=H) j;simp only[VR]at h;obtain⟨z,B,h⟩:=h;simp only[Nd.den,B,aZ]at d;subst d;rcases h with⟨q,I,D,rfl⟩|⟨_,rfl,rfl⟩
  ·exact⟨_,l e _ _ _ f,i _ rfl (by simp only[GR])⟩
  ·exact⟨_,l e _ _ _ f,i _ rfl (by simp only[GR];rfl)⟩
 ·cases j
def aBT{t:TypeId}{a i v:AV}{x y:Value}(b:VT P t a i=some v)(p:VR H a x)(q:VR H i y):∃z,(Instr.index t x y).run P w=.ok z w/\VR H v z:=by
 unfold VT at b;split at b
 ·next r=>
  split at b
  ·next n A B h=>
   obtain⟨T,l,U,f⟩:=mD h q;obtain⟨V,D,W,u⟩:=mD B p;obtain⟨_,g,_,d,E⟩:=mW (H:=H) b;simp only[Nd.den,D,l]at d;split at d
   ·next s k j F G=>
    cases F;cases G;simp only[GR]at f;subst f;simp only[GR]at u;subst u;split at d
    ·next I=>
     split at d
     ·next c L=>
      cases d;have M:EJ P t (.s s) (.i k j)=some (.i .u8 c.toNat):=by simp only[EJ,r,vX,aj I,L]
      obtain⟨z,N,O⟩:=Zm (P:=P) (w:=w) (H:=H) M (by simp only[VR]:VR H (.s s) (.string ⟨⟨s⟩⟩)) (by simp only[VR]:VR H (.i k j) (.int k j));exact⟨z,N,E z rfl ((lV _ _).2 O)⟩
     ·cases d
    ·cases d
   ·cases d
  ·cases b
 ·next len e r=>
  split at b
  ·next A hi=>
   obtain⟨g,l,_,f⟩:=mD hi q;split at b
   ·next k Q=>
    obtain⟨S,m,rfl,rfl⟩:=Pz l f Q;have o:EJ P t a (.i S m)=some v:=b;exact Zm o p (by simp only[VR])
   ·cases b
  ·cases b
 ·cases b
def adA{H:Env}{lo:Q4}{b:Wr}{l:Nat}{d:Nd}{e:GV}(i:(match lo with|none=>fG d|some a=>iU a)=some l)(f:lF H lo b)(j:aI.val l=some e):
 (lo=none/\b=none/\d.den aI.I aI.val=some e)\/(∃v,b=some v/\GR H.ro e v):=by
 cases lo with
 |none=>
  obtain⟨g,c,k⟩:=gQ i;rw[j]at c;cases c;refine .inl ⟨rfl,?_,k⟩;cases b with
  |none=>rfl
  |some v=>simp[lF]at f
 |some a=>
  cases b with
  |none=>simp[lF]at f
  |some v=>
   have h:VR H a v:=by simpa[lF]using f
   obtain⟨g,c,_,m⟩:=mD i h;rw[j]at c;cases c;exact .inr ⟨v,rfl,m⟩
def abM{lo hi:Q4}{f g:Wr}{l h:Nat}{d:Nd}{k m:IntKind}{j c:Int}{len:Nat}(n:Ob lo=some l)(o:RP d hi=some h)(h1:lF H lo f)(s:lF H hi g)
 (t:aI.val l=some (.i k j)) (u:aI.val h=some (.i m c)) (x:d.den aI.I aI.val=some (.i m c)->c=len) (h0:0<=j) (y:j<=c) (z:c<=len):
 ∃a b:Q4,lF H a f/\lF H b g/\xM len (λh=>Nat.ble h len) a b=some (j.toNat,c.toNat):=by
 have p:=adA (d:=.ci .i64 0) (by cases lo<;>exact n) h1 t;have q:=adA (d:=d) (by cases hi<;>exact o) s u;have i:Nat.ble c.toNat len=true:=acP (by omega);have A:∃b:Q4,lF H b g/\AU len (λh=>Nat.ble h len) b=some c.toNat:=by
  rcases q with⟨_,r,e⟩|⟨v,rfl,e⟩
  ·refine⟨none,by rw[r];simp[lF],?_⟩;simp only[AU];rw[x e];simp
  ·simp only[GR]at e;subst e;exact⟨some (.i m c),by simp[lF,VR],by simp only[AU,vX];rw[aj ⟨by omega,i⟩]⟩
 have B:∃a:Q4,lF H a f/\Kq c.toNat a=some j.toNat:=by
  rcases p with⟨_,r,e⟩|⟨v,rfl,e⟩
  ·refine⟨none,by rw[r];simp[lF],?_⟩;simp only[Nd.den,aZ,GV.i.injEq]at e;simp only[Kq];rw[<-e.2];rfl
  ·simp only[GR]at e;subst e;exact⟨some (.i k j),by simp[lF,VR],by simp only[Kq,vX];rw[aj ⟨h0,by omega⟩]⟩
 obtain⟨b,D,E⟩:=A;obtain⟨a,F,G⟩:=B;exact⟨a,b,F,D,by simp only[xM,E,G]⟩
def ajC(h:SR P H J w){t:TypeId}{a v:AV}{x:Value}{lo hi:Q4}{o p:Wr}(b:Qp P t a lo hi=some v)(G:VR H a x)(q:lF H lo o)(r:lF H hi p):
 ∃y,(Instr.sliceAt t x o p none).run P w=.ok y w/\VR H v y:=by
 unfold Qp at b;split at b
 ·next I=>
  split at b
  ·next n hn=>
   split at b
   ·next l hh L M=>
    obtain⟨gs,u,s2,E⟩:=mD hn G;obtain⟨_,g,_,c,N⟩:=mW (H:=H) b;simp only[Nd.den,u]at c;split at c
    ·next s k F k' d O Q S=>
     cases O;split at c
     ·next A=>
      cases c;simp only[GR]at E;subst E;obtain⟨j,m,T,U,V⟩:=abM (len:=s.length) L M q r Q S (λB=>by simp only[Nd.den,u,aZ,GV.i.injEq]at B;exact B.2.symm) A.1 A.2.1 A.2.2;have W:AY P t J (.s s) j m=some (.s ((s.take d.toNat).drop F.toNat)):=by simp only[AY,I,V,gB]
      obtain⟨z,X,Y⟩:=VH h W (by simp only[VR]:VR H (.s s) (.string ⟨⟨s⟩⟩)) T U;exact⟨z,X,N z rfl ((lV _ _).2 Y)⟩
     ·cases c
    ·cases c
   ·cases b
  ·cases b
 ·next e I=>
  split at b
  ·next n D Z=>
   split at b
   ·next l hh L M=>
    simp only[VR]at G;obtain⟨gs,u,s2,E⟩:=G;obtain⟨_,g,_,c,N⟩:=mW (H:=H) b;simp only[Nd.den,u]at c;split at c
    ·next f k F k' d O Q S=>
     cases O;split at c
     ·next A=>
      cases c;obtain⟨c1,c2,c3,c4⟩:=A;obtain⟨j,m,T,U,V⟩:=abM (len:=f.length) L M q r Q S (λB=>by simp only[Nd.den,u,aZ,GV.i.injEq]at B;exact B.2.symm) c1 c2 c3;have W:AY P t J (.ro (dQ f)) j m=some (.ro (dQ ((f.take d.toNat).drop F.toNat))):=by
       simp only[AY,I,Z,l9,V,vU];unfold Ro;split
       ·next e=>
        have:(f.take d.toNat).drop F.toNat=[]:=cO (by simp;omega);rw[this];rfl
       ·next e=>
        have i:0<f.length:=by omega
        have h0:(dQ f)[0]? =some (lJ f[0]):=by rw[O1,bP i];rfl
        rw[h0];simp only;have aa:(lJ f[0]).cells.length=D:=by rw[Lm,l9];rw[List.all_eq_true]at c4;exact bH (c4 _ (dW i))
        rw[aj aa,TV,TW]
      obtain⟨z,X,Y⟩:=VH h W ((lV (.l f) x).1 E) T U;exact⟨z,X,N z rfl ((lV _ _).2 (by simpa only[lJ]using Y))⟩
     ·cases c
    ·cases c
   ·cases b
  ·cases b
 ·cases b
def axq{cs vs r:Q1}{off:Nat}(h:putCells cs off vs=some r):off+vs.length<=cs.length/\r=cs.take off++vs++cs.drop (off+vs.length):=by
 unfold putCells at h;split at h
 ·next a=>cases h;exact⟨a,rfl⟩
 ·cases h
def GV.axy{x y:GV}{off:Nat}{vs:Q1}(h:x.put off vs=some y)(c:vs.all GV.scalar=true)(e:x.cells.all GV.scalar=true):off+vs.length<=x.cells.length/\y.cells=x.cells.take off++vs++x.cells.drop (off+vs.length)/\y.cells.length=x.cells.length/\y.cells.all GV.scalar=true:=by
 have f:∀r:Q1,off+vs.length<=x.cells.length->r=x.cells.take off++vs++x.cells.drop (off+vs.length)->r.length=x.cells.length/\r.all GV.scalar=true:=by intro r j d;subst d;refine⟨by simp;omega,?_⟩;rw[acv,acv,c];rw[List.all_eq_true]at e;simp only[Nq,aK,List.all_eq_true];exact⟨λa k=>e a (Hg k),λa k=>e a (J5 k)⟩
 have one:∀v,off=0->vs=[v]->x.cells.length=1->y=v->off+vs.length<=x.cells.length/\y.cells=x.cells.take off++vs++x.cells.drop (off+vs.length)/\y.cells.length=x.cells.length/\y.cells.all GV.scalar=true:=by intro v q t m u;subst q;subst t;subst u;simp only[sW,acw,Nq]at c;have n:y.cells=[y]:=GV.Jy c;refine⟨by simp[m],?_,by rw[n,m];rfl,by rw[n];simp[c]⟩;rw[n,cO (by rw[m];simp)];simp
 unfold GV.put at h;split at h
 ·next p=>
  obtain⟨r,z,rfl⟩:=bg.1 h;obtain⟨j,d⟩:=axq z;obtain⟨A,B⟩:=f r j d;exact⟨j,d,A,B⟩
 ·next o=>
  have D:x.cells.length=1:=by
   cases x with
   |g p=>exact absurd rfl (o p)
   |_=>rfl
  split at h
  ·next v=>cases h;exact one y rfl rfl D rfl
  ·cases h
def ae8{y:GV}{vs:Q1}{off sz:Nat}:∀{xs:Q1}{i:Nat}{x:GV},(∀z∈xs,z.cells.length=sz)->xs[i]? =some x->off+vs.length<=sz->y.cells=x.cells.take off++vs++x.cells.drop (off+vs.length)->
 (xs.set i y).flatMap GV.cells=(xs.flatMap GV.cells).take (i*sz+off)++vs++(xs.flatMap GV.cells).drop (i*sz+off+vs.length)
 |[],i,x,_,hi,_,_=>by simp at hi
 |z::xs,0,x,b,hi,a,c=>by simp only[kW,aZ]at hi;subst hi;have d:=b z (by simp);rw[List.set_cons_zero,jF,jF,c];rw[QO (by omega),WI (by omega)];simp[List.append_assoc]
 |z::xs,i+1,x,b,hi,a,c=>by
  have d:=b z (by simp);have f:=ae8 (i:=i) (λu g=>b u (zk _ g)) (by simpa using hi) a c;rw[List.set_cons_succ,jF,jF,f];have h:∀(F:Q1) k,(z.cells++F).take (z.cells.length+k)=z.cells++F.take k:=λF k=>by rw[List.take_append,lW (by omega),Xb]
  have j:∀(F:Q1) k,(z.cells++F).drop (z.cells.length+k)=F.drop k:=λF k=>by rw[acA,cO (by omega),aW,Xb]
  have e:(i+1)*sz+off=z.cells.length+(i*sz+off):=by rw[d,rH];omega
  rw[e,h,jH z.cells.length,j];simp[List.append_assoc]
def aad:∀{l:Q3}{b:Q2},nodesOf l=some b->l.all AV.nU=true
 |[],_,_=>rfl
 |a::l,b,h=>by
  simp only[nodesOf]at h;split at h
  ·next n r c d=>
   simp only[sW,aK];exact⟨by cases a<;>simp[iU]at c<;>rfl,aad d⟩
  ·cases h
def aF.split{l m:Q3}:∀{vs:Q6},aF H (l++m) vs->∃a b,vs=a++b/\aF H l a/\aF H m b:=by
 intro vs h;have c:=h.length;rw[eX]at c;refine⟨vs.take l.length,vs.drop l.length,(EF _ _).symm,?_,?_⟩
 ·have:=h.take l.length;rwa [QO (by omega),lW (by omega)]at this
 ·have:=h.drop l.length;rwa [WI (by omega),cO (by omega),aW]at this
def aBZ(h:SR P H J w){t:TypeId}{a v:AV}{x y:Value}(d:V4 P t J a v=some J')(n:VR H a x)(N:VR H v y):
 ∃w',(Instr.storeAt t x y).run P w=.ok () w'/\St P H J w H J' w':=by
 unfold V4 at d;split at d
 ·next id i b=>
  split at d
  ·next m r f O=>
   split at d
   ·next hc=>
    obtain⟨Q,S⟩:=hc;split at d
    ·next ag vs T s=>
     split at d
     ·next m' U=>
      cases d;simp only[VR]at n;obtain⟨q,k,j,B,hj,rfl⟩:=n;obtain⟨c,h1,V,h3,h4,h5,h6,D,hS⟩:=Na h O B;rw[T]at h5;cases h5;obtain⟨W,g1,g2,g3⟩:=U1 s (zB N);obtain⟨g,k1,p⟩:=gQ U;simp only[Nd.den,h1,hj,g1]at p;split at p
      ·next ai=>
       split at p
       ·next u X=>
        split at p
        ·next FD=>
         obtain⟨z,hz,rfl⟩:=bg.1 p;obtain⟨p1,p2,p3,p4⟩:=GV.axy hz g2 (D u (qp X));have Y:=ae8 V X (by omega) p2;have E:v.cells.length=W.length:=by rw[g3.length,(zB N).length]
         have Z:j.toNat<c.length:=(fB.1 X).1;have aa:(bM c).length=c.length*q.es:=by rw[bM,l9,OY V]
         have ab:j.toNat*q.es+b+v.cells.length<=(bM c).length:=by rw[aa,E];have:(j.toNat+1)*q.es<=c.length*q.es:=vS _ Z;rw[rH]at this;omega
         have F:Ad (bM c) (j.toNat*q.es+b) v.cells=some ((bM c).take (j.toNat*q.es+b)++v.cells++(bM c).drop (j.toNat*q.es+b+v.cells.length)):=by unfold Ad;rw[aj ab]
         have ac:EK P t (kV J id c r) (.p id (j.toNat*q.es+b)) v=some ((kV J id c r).put id (.cells ((bM c).take (j.toNat*q.es+b)++v.cells++(bM c).drop (j.toNat*q.es+b+v.cells.length)) r true true)):=by simp only[EK,Et];rw[aj ⟨Q,S,aad s⟩,F];rfl
         obtain⟨w',G,l⟩:=VN hS ac (x:=.pointer (some ⟨q.bl,q.ba+j.toNat*q.es+b,none⟩)) (by simp only[VR];exact⟨q,B,by rw[jH]⟩) N;refine⟨w',G,(Qs O l).right ?_ rfl rfl ?_⟩
         ·have ad:=l.rel.at (id:=id) (q:=q) (by rw[aA.get_put,aj rfl]) B;have I:OR P H q w' (.vec m' r f):=by
           refine OR.yw (λe=>by subst e;exact(h.at O B).Wq) k1 ?_ ?_ ad ?_
           ·intro x n;rcases acM n with n|rfl
            ·exact V x n
            ·rw[p3,FD]
           ·intro x n;rcases acM n with n|rfl
            ·exact D x n
            ·exact p4
           ·intro us ae;have e1:bM (c.set j.toNat z)=(bM c).take (j.toNat*q.es+b)++dQ W++(bM c).drop (j.toNat*q.es+b+W.length):=by unfold bM;rw[Y,IL,IL,TW,TV]
            rw[e1,<-E];obtain⟨u1,u2,rfl,q1,q2⟩:=aF.split ae;obtain⟨u3,u4,rfl,q3,q4⟩:=aF.split q1;obtain⟨ak,L,_,af⟩:=U1 s q4;rw[g1]at L;cases L;exact(q3.append ((oH _ _).1 af)).append q2
          have M:=aA.get_put (kV J id c r) id id (.cells ((bM c).take (j.toNat*q.es+b)++v.cells++(bM c).drop (j.toNat*q.es+b+v.cells.length)) r true true);rw[aj rfl]at M;have:=l.rel.swap (o':=.vec m' r f) M rfl (.inl ⟨q,B,I⟩);refine this.sub (λal o A=>?_) (dY _);unfold kV;rw[aA.get_put]at A⊢;split at A
          ·next e=>rw[aj e];exact A
          ·next e=>rw[ah e,aA.get_put,ah e,aA.get_put,ah e];exact A
         ·intro k' u' hk A;rw[aA.get_put]at hk⊢;split at hk
          ·next e=>rw[aj e];exact⟨_,rfl,rfl⟩
          ·next e=>
           rw[ah e];unfold kV;rw[aA.get_put,ah e];exact⟨u',hk,A⟩
        ·cases p
       ·cases p
      ·cases p
     ·cases d
    ·cases d
   ·cases d
  ·cases d
 ·cases d
def Env.ghost(H:Env)(id:Nat):Env:=⟨H.pl,H.ro,λk=>Nat.beq k id ||H.gh k⟩
def St.ghost(h:SR P H J w){τ:aA}{m t:Nat}{f:Bool}(B:aI.val m=some (.l []))(D:τ.lock=J.lock)(E:τ.next=J.next)(l:∀k o,τ.get k=some o->J.get k=some o):
 St P H J w (H.ghost J.next) (τ.new (.vec m t f)) w:=by
 have c:H.le (H.ghost J.next):=⟨λ_ _ h=>h,λ_ _ h=>h,λid n=>by simp[Env.ghost,n]⟩
 have get:∀k o,(τ.new (.vec m t f)).get k=some o->(k=J.next/\o=.vec m t f)\/(k≠J.next/\J.get k=some o):=by
  intro k o u;rw[aA.rY,E]at u;split at u
  ·next e=>cases u;exact .inl ⟨e,rfl⟩
  ·next e=>exact .inr ⟨e,l k o u⟩
 have pl:∀k,(H.ghost J.next) k=H k:=λ_=>rfl;have b:∀k q,k=J.next->H k=some q->False:=λk q e d=>by have:=h.dom k q d;omega
 refine⟨c,⟨h.nH,λid q d=>?_,λid o F=>?_,λid n=>?_,λid o g x q y r s j v z A=>?_,h.ji,λid o q r s j=>?_,λp G=>(h.tabs p G).mono c⟩,dY _,λ_ _ _=>rfl,λid o q r s j v=>?_,rfl,rfl,rfl,D,?_,?_,λ_ h=>.inl h⟩
 ·have:=h.dom id q d;show id<τ.next+1;omega
 ·rcases get id o F with⟨rfl,rfl⟩|⟨_,i⟩
  ·exact .inr ⟨by simp[Env.ghost],m,t,f,rfl,B⟩
  ·exact(h.live id o i).mono c
 ·have a:(Nat.beq id J.next ||H.gh id)=true:=n;rw[mY]at a;rcases a with a|a
  ·have e:=bH a;subst e;refine⟨?_,by show J.next<τ.next+1;omega⟩;rw[pl];cases d:H J.next with
   |none=>rfl
   |some q=>exact absurd (h.dom _ q d) (by omega)
  ·have:=h.jT id a;exact⟨this.1,by show id<τ.next+1;omega⟩
 ·rcases get id o r with⟨e,_⟩|⟨_,i⟩
  ·exact(b id q e z).elim
  ·rcases get g x j with⟨e,_⟩|⟨_,I⟩
   ·exact(b g y e A).elim
   ·exact h.sep id o g x q y i s I v z A
 ·rcases get id o r with⟨e,_⟩|⟨_,i⟩
  ·exact(b id q e j).elim
  ·exact h.lS id o q i s j
 ·rcases get id o r with⟨e,_⟩|⟨_,i⟩
  ·exact(b id q e v).elim
  ·exact .inr ⟨id,o,q,i,s,j,v,rfl⟩
 ·show J.next<=τ.next+1;omega
 ·rintro id (⟨q,d⟩|n)
  ·exact .inl (.inl ⟨q,d⟩)
  ·have a:(Nat.beq id J.next ||H.gh id)=true:=n;rw[mY]at a;rcases a with a|a
   ·have e:=bH a;right;show J.next<=id/\id<τ.next+1;omega
   ·exact .inl (.inr a)
def yU:∀(f:Nat){m n:Nat}{xs d:Q1},vw f m n=true->aI.val m=some (.l xs)->aI.val n=some (.l d)->xs.length=d.length
 |0,m,n,xs,d,h,h1,c=>by have:=bH h;subst this;rw[h1]at c;cases c;rfl
 |f+1,m,n,xs,d,h,h1,c=>by
  simp only[vw,mY]at h;rcases h with h|h
  ·have:=bH h;subst this;rw[h1]at c;cases c;rfl
  ·split at h
   ·next z o a i t l=>
    obtain⟨g,g1,g2⟩:=aI.qI m _ l (by simp);rw[h1]at g1;cases g1;simp only[Nd.den]at g2;split at g2
    ·next q k j u p r v=>
     split at g2
     ·split at g2
      ·split at g2
       ·obtain⟨y,_,e⟩:=bg.1 g2;cases e;rw[WV];exact yU f h p c
       ·cases g2
      ·cases g2
     ·cases g2
    ·cases g2
   ·next a b l=>
    obtain⟨g,g1,g2⟩:=aI.qI m _ l (by simp);rw[h1]at g1;cases g1;simp only[Nd.den]at g2;split at g2
    ·next q x p r=>
     split at g2
     ·next s=>cases g2;rw[s];exact yU f h p c
     ·cases g2
    ·cases g2
   ·cases h
def aA8:∀(f:Nat){m n:Nat}{g:GV}{d:Q1},vw f m n=true->aI.val m=some g->aI.val n=some (.l d)->∃xs,g=.l xs
 |0,m,n,g,d,h,h1,c=>by have:=bH h;subst this;rw[h1]at c;cases c;exact⟨_,rfl⟩
 |f+1,m,n,g,d,h,h1,c=>by
  simp only[vw,mY]at h;rcases h with h|h
  ·have:=bH h;subst this;rw[h1]at c;cases c;exact⟨_,rfl⟩
  ·split at h
   ·next z o a i l j=>
    obtain⟨k,g1,g2⟩:=aI.qI m _ j (by simp);rw[h1]at g1;cases g1;simp only[Nd.den]at g2;split at g2
    ·split at g2
     ·split at g2
      ·split at g2
       ·obtain⟨y,_,e⟩:=bg.1 g2;exact⟨_,e.symm⟩
       ·cases g2
      ·cases g2
     ·cases g2
    ·cases g2
   ·next a b j=>
    obtain⟨k,g1,g2⟩:=aI.qI m _ j (by simp);rw[h1]at g1;cases g1;simp only[Nd.den]at g2;split at g2
    ·split at g2
     ·cases g2;exact⟨_,rfl⟩
     ·cases g2
    ·cases g2
   ·cases h
def E8{agg:Bool}{size:Nat}(h1:agg=false->size=1):∀(n:Nat){cs:Q3}{f:Q2}{vs:Q6},elemsOf agg size n cs=some f->aF H cs vs->cs.length=n*size->
 ∃gs,valsOf aI.val f=some gs/\gs.length=n/\aF H (bM gs) vs/\cs.all AV.nU=true/\∀x∈gs,x.cells.length=size/\x.cells.all GV.scalar=true
 |0,cs,f,vs,h,e,k=>by simp only[elemsOf,aZ]at h;subst h;have:cs=[]:=jl (by simpa using k);subst this;exact⟨[],rfl,rfl,by simpa[bM,dQ]using e,rfl,by simp⟩
 |n+1,cs,f,vs,h,e,k=>by
  simp only[elemsOf]at h;rw[rH,Hq]at k;split at h
  ·next a r b D=>
   cases h;obtain⟨gs,u,v,y,z,A⟩:=E8 h1 n D (e.drop size) (by simp;omega);have o:cs=cs.take size++cs.drop size:=(EF _ _).symm;have p:vs=vs.take size++vs.drop size:=(EF _ _).symm;cases agg with
   |true=>
    simp only[if_true]at b;have i:VR H (.agg (cs.take size)) (.agg ⟨vs.take size⟩):=by simp only[VR];exact⟨_,rfl,e.take size⟩
    obtain⟨l,m,q,j,s,E,B⟩:=Kt b i;cases q;refine⟨.g m::gs,by simp only[valsOf,s,u],by simp[v],?_,?_,?_⟩
    ·have:bM (.g m::gs)=dQ m++bM gs:=by unfold bM;rw[jF,IL];rfl
     rw[this,p];refine aF.append ?_ y;simp only[GR]at B;obtain⟨L,F,G⟩:=B;cases F;exact(oH _ _).1 G
    ·rw[o,acv,aK];refine⟨?_,z⟩;unfold EL at b;simp only at b;split at b
     ·next f t=>exact aad t
     ·cases b
    ·intro x d;rcases bD.1 d with rfl|d
     ·exact⟨by show m.length=size;rw[j,kN];omega,E⟩
     ·exact A x d
   |false=>
    have:=h1 rfl;subst this;simp only[gy,if_false]at b;cases cs with
    |nil=>simp at k
    |cons c cs=>
     simp only[WR,vU]at b;simp only[aF]at e;obtain⟨x,M,rfl,d,I⟩:=e;obtain⟨g,q,j,s⟩:=mD b d;refine⟨g::gs,by simp only[valsOf,q,u],by simp[v],?_,?_,?_⟩
     ·have:bM (g::gs)=dQ g.cells++bM gs:=by unfold bM;rw[jF,IL]
      rw[this,GV.Jy j];simp only[dQ,bJ,aW];exact aF.cons ((lV _ _).1 s) (by simpa using y)
     ·simp only[sW,aK];exact⟨by cases c<;>simp[iU]at b<;>rfl,by simpa using z⟩
     ·intro x d;rcases bD.1 d with rfl|d
      ·rw[GV.Jy j];exact⟨rfl,by simp[j]⟩
      ·exact A x d
  ·cases h
def auP(h:SR P H J w){e:TypeId}{x:AV}{b size:Nat}{u:Value}{O e':TypeId}{xs:Q1}(d:listOf P J e x=some b)(i:VR H x u)(ht:P.underlying O=some (.slice e'))(Z:sizeT P e=some size)(v:aI.val b=some (.l xs))(hs:xs.all (GV.dZ size)=true):
 ∃y,Src P size O u xs.length y w/\aF H (bM xs) y:=by
 have A:FI P O=true:=by unfold FI;rw[ht]
 have B:∀z∈xs,z.cells.length=size/\z.cells.all GV.scalar=true:=by intro z D;rw[List.all_eq_true]at hs;have:=hs z D;unfold GV.dZ at this;rw[aK]at this;exact⟨Nat.eq_of_beq_eq_true this.1,this.2⟩
 have k:(bM xs).all AV.nU=true:=by unfold bM;refine YP ?_;rw[List.all_eq_true];intro g s;obtain⟨z,D,Q⟩:=acK.1 s;exact List.all_eq_true.1 (B z D).2 g Q
 unfold listOf at d;split at d
 ·next n=>
  cases d;simp only[VR]at i;obtain⟨g,h1,S,h3⟩:=i;rw[v]at h1;cases h1;have f:yZ J size (.ro (dQ xs))=some (xs.length,bM xs):=by simp only[yZ];rw[aj,l9,YO];rfl;rw[List.all_eq_true];intro a T;rw[wQ]at T;obtain⟨z,D,rfl⟩:=nR.1 T;rw[Lm,l9,(B z D).1];simp
  exact src_ok h A f ((lV (.l xs) u).1 h3) k
 ·obtain⟨g,h1,S⟩:=gQ d;rw[v]at h1;cases h1;simp only[Nd.den,valsOf,gB,aZ,GV.l.injEq]at S;subst S;exact src_ok h A (size:=size) (n:=0) (l:=[]) rfl i rfl
 ·next id n=>
  split at d
  ·next m et _ s=>
   split at d
   ·next t=>
    cases d;rw[aK]at t;simp only[VR]at i;obtain⟨y,h1,i⟩:=i;have o:=yU 100 t.2 v h1;rcases i with⟨q,E,j,rfl⟩|⟨_,rfl,rfl⟩
    ·obtain⟨ab,F,U,k3,k4,k5,k6,_,hS⟩:=Na h s E;rw[v]at F;cases F;have e:=bH t.1;subst e;rw[Z]at k5;cases k5;have f:yZ (kV J id xs e) q.es (.sl id 0 xs.length none)=some (xs.length,bM xs):=by
      simp only[yZ,Et];have:takeN (bM xs) 0 (xs.length*q.es)=some (bM xs):=by
       have d:(bM xs).length=xs.length*q.es:=by rw[bM,l9,OY U]
       unfold takeN;rw[bK,lW (by omega),aj d]
      rw[this];rfl
     rw[<-o]at j⊢;exact src_ok hS A f (by simp only[VR];exact⟨q,E,by simpa using j,by simp⟩) k
    ·have:xs=[]:=jl (by simpa using o);subst this;exact src_ok h A (a:=.gu) (size:=size) (n:=0) (l:=[]) rfl (by simp only[VR]) rfl
   ·cases d
  ·cases d
 ·next id V len W=>
  split at d
  ·next c et uD ac X Y s G T=>
   rw[Z]at G;cases G;split at d
   ·next t=>
    rw[aK,mY,aK]at t;split at d
    ·next cs r=>
     split at d
     ·next ns I=>
      have p:Y=false->size=1:=by
       intro e;subst e;rcases t.2 with h1|h1
       ·simp at h1
       ·exact bH h1
      obtain⟨g,g1,g2⟩:=gQ d;rw[v]at g1;cases g1;simp only[VR]at i;obtain⟨q,E,j,rfl⟩:=i;obtain⟨q',L,ws,aa,fr,hb,rr⟩:=h.obj _ _ s rfl;rw[E]at L;cases L;have M:=(ru r).2.1;obtain⟨gs,F,U,k3,k4,_⟩:=E8 (H:=H) p len I (rr.y7 r) M;simp only[Nd.den,F,gB,aZ,GV.l.injEq]at g2;subst g2;obtain⟨y,j1,j2⟩:=src_ok h A (size:=size) (n:=len) (l:=cs) (a:=.sl id V len W) (by simp only[yZ,s,r,gB]) (by simp only[VR];exact⟨q,E,j,rfl⟩) k4;obtain⟨ad,N,ae,Ur,_⟩:=E8 (H:=H) p len I j2 M;rw[F]at N;cases N;rw[U];exact⟨y,j1,Ur⟩
     ·cases d
    ·cases d
   ·cases d
  ·cases d
 ·cases d
def adD(s:Q0):bM (dw s)=wC s:=by
 unfold bM dw wC;induction s with
 |nil=>rfl
 |cons c s a=>simp only[gX,jF,GV.cells,bJ,aW,dQ,lJ,a]
