/- Values that are named by nodes: numbers, texts, truth values, parts of what nobody changes. -/
import Derived.Test.YthchhlenbkefnaaGreatDoorAbsC
import Derived.Laws.StructEq
set_option linter.all false
namespace Go.aN
noncomputable section
variable[aH]
variable{P:Program}{F:Env}{J J':aA}{w:World}
mutual
def lH:GV->AV
 |.b x=>.b x
 |.i k n=>.i k n
 |.s x=>.s x
 |.g cs=>.agg (dX cs)
 |.l xs=>.ro (dX xs)
def dX:Q1->List AV
 |[]=>[]
 |a::l=>lH a::dX l
end
def yc:∀l:Q1,dX l=l.map lH
 |[]=>rfl
 |a::l=>by simp[dX,yc l]
def nG(l:Q1):(dX l).length=l.length:=by rw[yc];simp
def Qp(l:Q1)(k:Nat):(dX l)[k]? =(l[k]?).map lH:=by rw[yc];simp
mutual
def l9:∀(g:GV)(v:Value),GR F.ro g v↔VR F (lH g) v
 |.b _,_=>by simp only[GR,VR,lH]
 |.i _ _,_=>by simp only[GR,VR,lH]
 |.s _,_=>by simp only[GR,VR,lH]
 |.g cs,v=>by
  simp only[GR,VR,lH];constructor
  ·rintro⟨vs,e,h⟩;exact⟨vs,e,(qj cs vs).1 h⟩
  ·rintro⟨vs,e,h⟩;exact⟨vs,e,(qj cs vs).2 h⟩
 |.l xs,v=>by
  simp only[GR,VR,lH,nG];have f:dX xs=[]↔xs=[]:=by cases xs<;>simp[dX]
  rw[f];constructor
  ·rintro(h|⟨i,a,c,d,j,e,k,h,l,m⟩)
   ·exact .inl h
   ·exact .inr ⟨i,a,c,d,j,e,k,(qj xs d).1 h,l,λb=>m (λe=>b (f.2 e))⟩
  ·rintro(h|⟨i,a,c,d,j,e,k,h,l,m⟩)
   ·exact .inl h
   ·exact .inr ⟨i,a,c,d,j,e,k,(qj xs d).2 h,l,λb=>m (λe=>b (f.1 e))⟩
def qj:∀(l:Q1)(vs:Q6),aS F.ro l vs↔aC F (dX l) vs
 |[],_=>by simp only[aS,aC,dX]
 |a::l,vs=>by
  simp only[aS,aC,dX];constructor
  ·rintro⟨x,xs,e,h1,b⟩;exact⟨x,xs,e,(l9 a x).1 h1,(qj l xs).1 b⟩
  ·rintro⟨x,xs,e,h1,b⟩;exact⟨x,xs,e,(l9 a x).2 h1,(qj l xs).2 b⟩
end
def Nh(g:GV):(lH g).cells=dX g.cells:=by cases g<;>simp[lH,dX,AV.cells,GV.cells]
def aap:∀l:Q1,(dX l).flatMap AV.cells=dX (l.flatMap GV.cells)
 |[]=>rfl
 |a::l=>by simp only[dX,kE,aap l,Nh];rw[yc,yc,yc,nM]
def GR.cells{g:GV}{v:Value}(h:GR F.ro g v):aC F (dX g.cells) v.cells.toList:=by rw[<-Nh];exact AL ((l9 g v).1 h)
def GR.Zk{g:GV}{v:Value}(h:GR F.ro g v):g.cells.length=v.cells.size:=by have:=h.cells.length;rw[nG]at this;simpa using this
def GV.KI{g:GV}(h:g.scalar=true):g.cells=[g]:=by cases g<;>first|rfl|(cases h)
def au7{g:GV}(h:g.scalar=true):(lH g).oO=true:=by cases g<;>first|rfl|(cases h)
def aaq:∀{l:Q1},l.all GV.scalar=true->(dX l).all AV.oO=true
 |[],_=>rfl
 |a::l,h=>by simp only[rH,aK]at h;simp only[dX,rH,aK];exact⟨au7 h.1,aaq h.2⟩
def aS.length{ro:Qf}:∀{l:Q1}{vs:Q6},aS ro l vs->l.length=vs.length
 |[],vs,h=>by simp only[aS]at h;subst h;rfl
 |a::l,vs,h=>by simp only[aS]at h;obtain⟨x,xs,rfl,_,b⟩:=h;simp[aS.length b]
def aS.at{ro:Qf}:∀{l:Q1}{vs:Q6},aS ro l vs->∀{k:Nat}{a:GV},l[k]? =some a->∃x,vs[k]? =some x/\GR ro a x
 |[],vs,h,k,a,c=>by simp at c
 |b::l,vs,h,k,a,c=>by
  simp only[aS]at h;obtain⟨x,xs,rfl,h1,d⟩:=h;cases k with
  |zero=>simp at c;subst c;exact⟨x,by simp,h1⟩
  |succ k=>obtain⟨y,e,f⟩:=aS.at d (by simpa using c);exact⟨y,by simpa using e,f⟩
def gU{x:Nd}{n:Nat}(h:fQ x=some n):∃g,aH.val n=some g/\x.den aH.I aH.val=some g:=by obtain⟨a,b⟩:=atE h;exact aH.sH n x a b
def aoS{m f:Nat}(h:ZC m f=true):(∃k a b,aH.val m=some (.i k a)/\aH.val f=some (.i k b)/\a≠b)\/(∃a b,aH.val m=some (.s a)/\aH.val f=some (.s b)/\a≠b):=by
 unfold ZC at h;split at h
 ·next k a q b i j=>
  rw[aK]at h;have:=V5 h.1;subst this;obtain⟨g,n,c⟩:=aH.sH _ _ i (by simp);obtain⟨p,o,d⟩:=aH.sH _ _ j (by simp);simp only[Nd.den,aY]at c d;subst c;subst d;refine .inl ⟨k,a,b,n,o,λe=>?_⟩;subst e;rw[(ah5 (a:=a) (b:=a)).2 rfl]at h;simp at h
 ·next a b i j=>
  obtain⟨g,n,c⟩:=aH.sH _ _ i (by simp);obtain⟨p,o,d⟩:=aH.sH _ _ j (by simp);simp only[Nd.den,aY]at c d;subst c;subst d;refine .inr ⟨a,b,n,o,λe=>?_⟩;subst e;rw[(afl (l:=a) (m:=a)).2 rfl]at h;simp at h
 ·cases h
def abp{n m:Nat}:∀{l:Wg},(∀p∈l,aH.val p.1=some (.b p.2))->Ho n m l=true->(∃k a b,aH.val n=some (.i k b)/\aH.val m=some (.i k a)/\a≠b)\/(∃a b,aH.val n=some (.s b)/\aH.val m=some (.s a)/\a≠b)
 |[],_,h=>by simp[Ho]at h
 |p::l,s,h=>by
  simp only[Ho,oK]at h;rcases h with h|h
  ·cases d:p.2 with
   |false=>rw[d]at h;simp at h
   |true=>
    rw[d]at h;simp only[cond_true]at h;split at h
    ·next B D u=>
     rw[aK]at h;have e:=bK h.1;subst e;obtain⟨g,v,c⟩:=aH.sH _ _ u (by simp);have t:=s p (by simp);rw[d,v]at t;cases t;simp only[Nd.den]at c;rcases aoS h.2 with⟨k,a,b,f,i,j⟩|⟨a,b,f,i,j⟩
     ·rw[i]at c;split at c
      ·next x y o r=>
       cases r;cases x<;>simp only[iJ,bV,reduceCtorEq]at c
       split at c
       ·next z=>
        subst z;simp only[aY,GV.b.injEq,beq_iff_eq]at c;subst c;exact .inl ⟨_,a,_,o,f,j⟩
       ·cases c
      ·cases c
     ·rw[i]at c;split at c
      ·next x y o r=>
       cases r;cases x<;>simp only[iJ,yE,reduceCtorEq]at c
       simp only[aY,GV.b.injEq,beq_iff_eq]at c;subst c;exact .inr ⟨a,_,o,f,j⟩
      ·cases c
    ·cases h
  ·exact abp (λq A=>s q (by simp[A])) h
def afK{c n m:Nat}{b:Bool}:∀{l:Wg},(∀p∈l,aH.val p.1=some (.b p.2))->MH c n m l=some b->∃d x y,xq d=c/\aH.val n=some x/\aH.val m=some y/\iJ d x y=some (.b b)
 |[],_,h=>by simp[MH]at h
 |p::l,f,h=>by
  have i:=λh=>afK (c:=c) (n:=n) (m:=m) (b:=b) (l:=l) (λq k=>f q (by simp[k])) h;simp only[MH]at h;split at h
  ·next d o r s=>
   cases a:Nat.beq n o&&Nat.beq m r&&Nat.beq (xq d) c with
   |false=>rw[a]at h;exact i h
   |true=>
    rw[a]at h;simp only[cond_true,aY]at h;rw[aK,aK]at a;have t:=bK a.1.1;have u:=bK a.1.2;have v:=bK a.2;subst t;subst u;obtain⟨g,z,e⟩:=aH.sH _ _ s (by simp);have j:=f p (by simp);rw[z,h]at j;cases j;simp only[Nd.den]at e;split at e
    ·next x y A B=>exact⟨d,x,y,v,A,B,e⟩
    ·cases e
  ·exact i h
def aoR{f c:BinOp}{x y g:GV}{r:Bool}(h:Gn f=some c)(h1:iJ c x y=some (.b r))(d:iJ f x y=some g):g=.b (!r):=by
 cases x with
 |i k a=>
  cases y with
  |i j b=>
   by_cases e:k=j
   ·subst e;unfold Gn at h;split at h<;>cases h<;>simp only[iJ,bV,if_true,aY,GV.b.injEq]at h1 d<;>rw[<-h1,<-d]<;>congr 1<;>rw[yI]<;>simp<;>omega
   ·unfold Gn at h;split at h<;>cases h<;>simp only[iJ,ah e]at h1<;>cases h1
  |_=>unfold Gn at h;split at h<;>cases h<;>simp[iJ]at h1
 |s a=>
  cases y with
  |s b=>unfold Gn at h;split at h<;>cases h<;>simp only[iJ,yE,aY,GV.b.injEq]at h1 d<;>rw[<-h1,<-d]<;>simp
  |_=>unfold Gn at h;split at h<;>cases h<;>simp[iJ]at h1
 |_=>unfold Gn at h;split at h<;>cases h<;>simp[iJ]at h1
def acP{a:BinOp}{n m:Nat}{b:Bool}{g:GV}(h:Ry a n m=some b)(c:(Nd.bin a n m).den aH.I aH.val=some g):g=.b b:=by
 unfold Ry at h;split at h
 ·next d f=>
  obtain⟨r,i,rfl⟩:=bC.1 h;obtain⟨j,x,y,e,k,l,o⟩:=afK (λp q=>aH.CO p.1 p.2 q) i;have:=ajy.1 e;subst this;simp only[Nd.den,k,l]at c;exact aoR f o c
 ·cases h
def aAX{x:Nd}{b:Bool}{g:GV}(h:acQ x=some b)(c:x.den aH.I aH.val=some g):g=.b b:=by
 unfold acQ at h;split at h
 ·next n m=>
  cases d:Ho n m gY.dec with
  |false=>rw[d]at h;simp only[cond_false]at h;exact acP h c
  |true=>
   rw[d]at h;cases h;rcases abp (λp j=>aH.CO p.1 p.2 j) d with⟨k,a,b,e,f,i⟩|⟨a,b,e,f,i⟩
   ·simp only[Nd.den,e,f,iJ,bV,if_true,aY]at c;rw[<-c];simp[Ne.symm i]
   ·simp only[Nd.den,e,f,iJ,yE,aY]at c;rw[<-c];simp[Ne.symm i]
 ·next n m=>
  cases d:Ho n m gY.dec with
  |false=>rw[d]at h;simp only[cond_false]at h;exact acP h c
  |true=>
   rw[d]at h;cases h;rcases abp (λp j=>aH.CO p.1 p.2 j) d with⟨k,a,b,e,f,i⟩|⟨a,b,e,f,i⟩
   ·simp only[Nd.den,e,f,iJ,bV,if_true,aY]at c;rw[<-c];simp[Ne.symm i]
   ·simp only[Nd.den,e,f,iJ,yE,aY]at c;rw[<-c];simp[Ne.symm i]
 ·exact acP h c
 ·cases h
def nV{x:Nd}{r:AV}(h:lu x=some r):∃n g,aH.val n=some g/\x.den aH.I aH.val=some g/\∀v,g.scalar=true->GR F.ro g v->VR F r v:=by
 unfold lu at h;split at h
 ·next n f=>
  obtain⟨g,c,e⟩:=gU f;refine⟨n,g,c,e,λv i a=>?_⟩;split at h
  ·next b d=>
   cases h;have:=aH.CO n b (Qd d);rw[c]at this;cases this;simp only[GR]at a;simp only[VR];exact a
  ·split at h
   ·next b d=>
    cases h;have:=aAX d e;subst this;simp only[GR]at a;simp only[VR];exact a
   ·cases h;simp only[VR];exact⟨g,c,i,a⟩
 ·cases h
def Jh{a:Q4}{r:AV}(h:dB a=some r):∃v,a=some v/\∀(F:Env)(x:Value),VR F v x->VR F r x:=by
 unfold dB at h;split at h
 ·next n=>
  split at h
  ·next b f=>
   cases h;refine⟨_,rfl,λF x c=>?_⟩;have i:=aH.CO n b (Qd f);simp only[VR]at c;obtain⟨g,d,_,e⟩:=c;rw[i]at d;cases d;simp only[GR]at e;subst e;simp only[VR]
  ·cases h
 ·exact⟨r,h,λ_ _ h=>h⟩
def ng{a:AV}{n:Nat}{v:Value}(h:jg a=some n)(e:VR F a v):∃g,aH.val n=some g/\g.scalar=true/\GR F.ro g v:=by
 cases a<;>simp only[jg,reduceCtorEq,aY]at h
 case nd m=>subst h;simpa only[VR]using e
 case i k m=>obtain⟨g,d,c⟩:=gU h;simp only[Nd.den,aY]at c;subst c;exact⟨_,d,rfl,by simpa only[VR,GR]using e⟩
 case b x=>obtain⟨g,d,c⟩:=gU h;simp only[Nd.den,aY]at c;subst c;exact⟨_,d,rfl,by simpa only[VR,GR]using e⟩
 case s x=>obtain⟨g,d,c⟩:=gU h;simp only[Nd.den,aY]at c;subst c;exact⟨_,d,rfl,by simpa only[VR,GR]using e⟩
 case gK=>obtain⟨g,d,c⟩:=gU h;simp only[Nd.den,valsOf,gZ,aY]at c;subst c;exact⟨_,d,rfl,by simp only[VR]at e;simp only[GR];exact .inl ⟨trivial,_,e⟩⟩
def WR:∀{l:Q3}{c:Q2}{vs:Q6},nodesOf l=some c->aC F l vs->∃gs,valsOf aH.val c=some gs/\gs.all GV.scalar=true/\aS F.ro gs vs
 |[],c,vs,h,b=>by simp only[nodesOf,aY]at h;subst h;simp only[aC]at b;subst b;exact⟨[],rfl,rfl,by simp[aS]⟩
 |a::l,c,vs,h,b=>by
  simp only[nodesOf]at h;split at h
  ·next n r d e=>
   cases h;simp only[aC]at b;obtain⟨x,xs,rfl,h1,f⟩:=b;obtain⟨g,i,j,k⟩:=ng d h1;obtain⟨gs,m,o,p⟩:=WR e f;exact⟨g::gs,by simp only[valsOf,i,m],by simp[j,o],by simp only[aS];exact⟨x,xs,rfl,k,p⟩⟩
  ·cases h
def LZ{a:AV}{n:Nat}{v:Value}(h:FY a=some n)(d:VR F a v):∃l gs,a=.agg l/\gs.length=l.length/\aH.val n=some (.g gs)/\gs.all GV.scalar=true/\GR F.ro (.g gs) v:=by
 unfold FY at h;split at h
 ·next l=>
  split at h
  ·next o c=>
   simp only[VR]at d;obtain⟨j,rfl,b⟩:=d;obtain⟨gs,k,e,f⟩:=WR c b;obtain⟨g,m,i⟩:=gU h;simp only[Nd.den,k,e,if_true,aY]at i;subst i;exact⟨l,gs,rfl,by rw[f.length,b.length],m,e,by simp only[GR];exact⟨j,rfl,f⟩⟩
  ·cases h
 ·cases h
def aBs{c:BinOp}{t:TypeId}{x y:Operand}{k d:IntKind}{a b:Int}{w:World}:(eqGuard c t x y (.int k a) (.int d b)).run P w=.ok () w:=by unfold eqGuard;cases c<;>rfl
def aBt{c:BinOp}{t:TypeId}{x y:Operand}{a b:ByteArray}{w:World}:(eqGuard c t x y (.string a) (.string b)).run P w=.ok () w:=by unfold eqGuard;cases c<;>rfl
def awh{c:BinOp}{t:TypeId}{k:IntKind}{a b:Int}{g:GV}(h1:c≠.shl)(d:c≠.shr)(h:bV c k a b=some g):g.scalar=true/\∃z,(binOp c t (.int k a) (.int k b)).run P w=.ok z w/\GR F.ro g z:=by
 cases c<;>simp only[bV,reduceCtorEq]at h
 all_goals first|(exact absurd rfl h1)|(exact absurd rfl d)|(cases h;done)|skip
 all_goals first
  |(cases h;refine⟨rfl,?_⟩;simp only[binOp,ne_eq,not_true_eq_false,if_false,Op.intArith,Op.intCmp,Op.intBits];exact⟨_,rfl,by simp only[GR]⟩)
  |(split at h;cases h;cases h;next e=>refine⟨rfl,?_⟩;simp only[binOp,ne_eq,not_true_eq_false,if_false,Op.intDiv,e];exact⟨_,rfl,by simp only[GR]⟩)
def ali{c:BinOp}{t:TypeId}{k e:IntKind}{a b:Int}{g:GV}(f:c=.shl\/c=.shr)(h:kD c k a b=some g):g.scalar=true/\∃z,(binOp c t (.int k a) (.int e b)).run P w=.ok z w/\GR F.ro g z:=by
 unfold kD at h;split at h
 ·cases h
 ·next d=>
  rcases f with rfl|rfl
  ·cases h;refine⟨rfl,?_⟩;simp only[binOp,Op.shift,ah d];exact⟨_,rfl,by simp only[GR]⟩
  ·cases h;refine⟨rfl,?_⟩;simp only[binOp,Op.shift,ah d];exact⟨_,rfl,by simp only[GR]⟩
def aEu{c:BinOp}{t:TypeId}{a b:Q0}{g:GV}(h:yE c a b=some g):g.scalar=true/\∃z,(binOp c t (.string ⟨⟨a⟩⟩) (.string ⟨⟨b⟩⟩)).run P w=.ok z w/\GR F.ro g z:=by
 cases c<;>simp only[yE,reduceCtorEq]at h
 all_goals first|(cases h;done)|skip
 all_goals first|(cases h;refine⟨rfl,?_⟩;simp only[binOp,Op.stringOp,toList_mk];exact⟨_,rfl,by simp only[GR]⟩)|skip
 split at h
 ·next d=>
  cases h;have:¬(((⟨⟨a⟩⟩:ByteArray).size+(⟨⟨b⟩⟩:ByteArray).size:Nat):Int)>IntKind.i64.max:=by rw[strSize,strSize];omega
  refine⟨rfl,?_⟩;simp only[binOp,Op.stringOp,ah this,aeS];exact⟨_,rfl,by simp only[GR]⟩
 ·cases h
def anv{d:BinOp}{t:TypeId}{x y:Operand}{j l g:GV}{u e:Value}(h:iJ d j l=some g)(h1:GR F.ro j u)(c:GR F.ro l e):
 g.scalar=true/\∃z,(do eqGuard d t x y u e;binOp d t u e:Sem Value).run P w=.ok z w/\GR F.ro g z:=by
 unfold iJ at h;split at h
 ·next k a n b=>
  simp only[GR]at h1 c;subst h1;subst c;simp only[aV,aBs,aU];split at h
  ·exact ali (.inl rfl) h
  ·exact ali (.inr rfl) h
  ·next f i=>
   split at h
   ·next m=>subst m;exact awh f i h
   ·cases h
 ·next a b=>
  simp only[GR]at h1 c;subst h1;subst c;simp only[aV,aBt,aU];exact aEu h
 ·cases h
def agE{t:TypeId}(c:P.underlying t=some .bool)(a b:Bool):(Op.equal t (.bool a) (.bool b)).run P w=.ok (a==b) w:=by
 have H:∀n,(Op.equalIn (n+1) t (.bool a) (.bool b)).run P w=.ok (a==b) w:=λn=>by simp only[Op.equalIn,aV,bf c,aU,bJ]
 exact H 9999
def ant{c:BinOp}{t:TypeId}{x y:Operand}{e f g:GV}{u d:Value}(i:P.underlying t=some .bool)(h:Ul c e f=some g)(h1:GR F.ro e u)(j:GR F.ro f d):
 g.scalar=true/\∃z,(do eqGuard c t x y u d;binOp c t u d:Sem Value).run P w=.ok z w/\GR F.ro g z:=by
 unfold Ul at h;split at h
 ·next a b=>
  simp only[GR]at h1 j;subst h1;subst j;split at h
  ·cases h;exact⟨rfl,_,tX (agE i a b) rfl rfl,by simp only[GR]⟩
  ·cases h;exact⟨rfl,_,tY (agE i a b) rfl rfl,by simp only[GR]⟩
  ·cases h
 ·cases h
def agF{w:World}(d:Nat):∀(fs:List Field)(k:Nat)(D:Q2)(xs p:Q6)(gs m:Q1)(r:Bool),NY P fs k=some D->aS F.ro gs (xs.drop k)->aS F.ro m (p.drop k)->oD D gs m=some r->
 (Op.eqFields (d+1) ⟨xs⟩ ⟨p⟩ fs).run P w=.ok r w
 |[],k,D,xs,p,gs,m,r,n,_,_,c=>by
  simp only[NY,aY]at n;subst n;cases gs with
  |cons g gs=>simp[oD]at c
  |nil=>
   cases m with
   |cons g gs=>simp[oD]at c
   |nil=>simp only[oD,aY]at c;subst c;simp[Op.eqFields]
 |f::fs,k,D,xs,p,gs,m,r,n,W,X,c=>by
  simp only[NY]at n;split at n
  ·next Y=>
   rw[aK,wC]at Y;obtain⟨Z,ho⟩:=Y;have G:=bK ho;split at n
   ·next a t o H=>
    cases n;cases gs with
    |nil=>simp[oD]at c
    |cons g gs=>
    cases m with
    |nil=>simp[oD]at c
    |cons I m=>
    simp only[aS]at W X;obtain⟨u,us,v,s,L⟩:=W;obtain⟨u',M,x,j,N⟩:=X;have O:xs[k]? =some u:=by rw[<-List.head?_drop,v];rfl
    have Q:p[k]? =some u':=by rw[<-List.head?_drop,x];rfl
    have R:us=xs.drop (k+1):=by have:=uf (List.drop 1) v;simpa[rJ]using this.symm
    have S:M=p.drop (k+1):=by have:=uf (List.drop 1) x;simpa[rJ]using this.symm
    have y:oP P f.type=some false:=by unfold acp at o;unfold oP;split at o<;>first|(next h=>rw[h])|(cases o)
    have l:∀(E:Q6) z,E[k]? =some z->(part f.type ⟨E⟩ f.offset).run P w=.ok z w:=by
     intro E z hz;unfold part;simp only[aV,KH y,aU,iw,if_false];have:(⟨E⟩:QQ)[f.offset]? =some z:=by rw[G];simpa using hz
     simp only[this,bJ]
    have T:(f.name ≠ "_"):=by intro e;rw[e]at Z;simp at Z
    have fin:∀b q,(Op.equalIn (d+1) f.type u u').run P w=.ok b w->oD t gs m=some q->(Op.eqFields (d+1) ⟨xs⟩ ⟨p⟩ (f::fs)).run P w=.ok (b&&q) w:=by
     intro b q hb i;have A:=agF (w:=w) d fs (k+1) t xs p gs m q H (by rw[<-R];exact L) (by rw[<-S];exact N) i;simp only[Op.eqFields,aj T,aV,l _ _ O,l _ _ Q,aU,hb];cases b with
     |true=>simpa using A
     |false=>simp
    unfold acp at o;split at o
    ·next kk B=>
     cases o;cases g<;>cases I<;>simp only[oD,reduceCtorEq]at c
     split at c
     ·next V=>
      subst V;obtain⟨q,i,rfl⟩:=bC.1 c;simp only[GR]at s j;subst s;subst j;exact fin _ _ (run_equalIn_int w d _ _ _ _ _ B) i
     ·cases c
    ·next B=>
     cases o;cases g<;>cases I<;>simp only[oD,reduceCtorEq]at c
     obtain⟨q,i,rfl⟩:=bC.1 c;simp only[GR]at s j;subst s;subst j;refine fin _ _ ?_ i;rw[run_equalIn_string w d _ _ _ B,toList_mk,toList_mk]
    ·next B=>
     cases o;cases g<;>cases I<;>simp only[oD,reduceCtorEq]at c
     obtain⟨q,i,rfl⟩:=bC.1 c;simp only[GR]at s j;subst s;subst j;exact fin _ _ (run_equalIn_bool' w d _ _ _ B) i
    ·cases o
   ·cases n
  ·cases n
def anu{k:BinOp}{t:TypeId}{x y:Operand}{fs:Array Field}{i:Q2}{o p g:GV}{u l:Value}(q:P.underlying t=some (.struct fs))(m:P.stoodInHeld t=false)(c:P.eqGuardType P.depth t=false)(A:NY P fs.toList 0=some i)
 (h:Md k i o p=some g) (h1:GR F.ro o u) (j:GR F.ro p l):
 g.scalar=true/\∃z,(do eqGuard k t x y u l;binOp k t u l:Sem Value).run P w=.ok z w/\GR F.ro g z:=by
 unfold Md at h;split at h
 ·next a b=>
  simp only[GR]at h1 j;obtain⟨s,rfl,h1⟩:=h1;obtain⟨v,rfl,j⟩:=j;have d:P.fieldsOf t=fs:=by unfold Program.fieldsOf;rw[q]
  have n:P.underlying t=some (.struct (P.fieldsOf t)):=by rw[d];exact q
  have e:∀r,oD i a b=some r->(Op.equalIn 10000 t (.agg ⟨s⟩) (.agg ⟨v⟩)).run P w=.ok r w:=by intro r f;rw[run_equalIn_agg w 9999 t _ _ n m,d];exact agF (F:=F) 9998 fs.toList 0 i s v a b r A (by simpa using h1) (by simpa using j) f
  split at h
  ·obtain⟨r,f,rfl⟩:=bC.1 h;refine⟨rfl,.bool r,?_,by simp only[GR]⟩;simp only[aV,run_eqGuard_agg w .eql t x y _ _ c,aU,run_eql_struct,e r f]
  ·obtain⟨r,f,rfl⟩:=bC.1 h;refine⟨rfl,.bool (!r),?_,by simp only[GR]⟩;simp only[aV,run_eqGuard_agg w .neq t x y _ _ c,aU,run_neq_struct,e r f]
  ·cases h
 ·cases h
def aEB{p:BinOp}{t:TypeId}{x y:Operand}{a b v:AV}{u r:Value}(c:XJ P p t a b=some v)(f:VR F a u)(j:VR F b r):
 ∃z,(do eqGuard p t x y u r;binOp p t u r:Sem Value).run P w=.ok z w/\VR F v z:=by
 unfold XJ at c
 have B:∀{m n:Nat}{Q:Nd},lu Q=some v->(∀g,Q.den aH.I aH.val=some g->g.scalar=true/\∃z,(do eqGuard p t x y u r;binOp p t u r:Sem Value).run P w=.ok z w/\GR F.ro g z)->
  ∃z,(do eqGuard p t x y u r;binOp p t u r:Sem Value).run P w=.ok z w/\VR F v z:=by
  intro m n Q D Z;obtain⟨_,g,_,h2,h3⟩:=nV (F:=F) D;obtain⟨h4,z,h5,h6⟩:=Z g h2;exact⟨z,h5,h3 z h4 h6⟩
 have E:(match jg a,jg b with|some x,some y=>lu (.bin p x y)|_,_=>none)=some v->∃z,(do eqGuard p t x y u r;binOp p t u r:Sem Value).run P w=.ok z w/\VR F v z:=by
  intro c;split at c
  ·next m n D G=>
   obtain⟨T,H,V,I⟩:=ng D f;obtain⟨W,L,X,M⟩:=ng G j;refine B (m:=m) (n:=n) c λg s=>?_;simp only[Nd.den,H,L]at s;exact anv s I M
  ·cases c
 split at c
 ·exact E c
 ·exact E c
 ·next d=>
  split at c
  ·next m n D G=>
   obtain⟨T,H,V,I⟩:=ng D f;obtain⟨W,L,X,M⟩:=ng G j;refine B (m:=m) (n:=n) c λg s=>?_;simp only[Nd.den,H,L]at s;exact ant d s I M
  ·cases c
 ·next fs d=>
  split at c
  ·next R=>
   rw[aK,wC,wC]at R;split at c
   ·next ks m n S D G=>
    obtain⟨l1,T,_,_,H,V,I⟩:=LZ D f;obtain⟨l2,W,_,_,L,X,M⟩:=LZ G j;refine B (m:=m) (n:=n) c λg s=>?_;simp only[Nd.den,H,L]at s;exact anu d R.1 R.2 S s I M
   ·cases c
  ·cases c
 ·next e d=>
  have N:∀{m l:Nat}{u:Value},VR F (.rx m l) u->∃o,u=.pointer (some o):=by intro m l u h;simp only[VR]at h;obtain⟨g,bl,base,cs,Y,fr,y,_,_,_,rfl,_⟩:=h;exact⟨_,rfl⟩
  have O:∀{id m l:Nat}{u:Value},VR F (.pv id m l) u->∃o,u=.pointer (some o):=by intro id m l u h;simp only[VR]at h;obtain⟨q,k,i,_,_,rfl⟩:=h;exact⟨_,rfl⟩
  have A:∀{u:Value},VR F .jU u->u=.pointer none:=by intro u h;simpa only[VR]using h
  split at c<;>cases c
  ·obtain⟨o,rfl⟩:=N f;have:=A j;subst this;exact⟨_,tX (Gv d _) rfl rfl,by simp only[VR]⟩
  ·obtain⟨o,rfl⟩:=N j;have:=A f;subst this;exact⟨_,tX (Gu d _) rfl rfl,by simp only[VR]⟩
  ·obtain⟨o,rfl⟩:=N f;have:=A j;subst this;exact⟨_,tY (Gv d _) rfl rfl,by simp only[VR];rfl⟩
  ·obtain⟨o,rfl⟩:=N j;have:=A f;subst this;exact⟨_,tY (Gu d _) rfl rfl,by simp only[VR];rfl⟩
  ·obtain⟨o,rfl⟩:=O f;have:=A j;subst this;exact⟨_,tX (Gv d _) rfl rfl,by simp only[VR]⟩
  ·obtain⟨o,rfl⟩:=O j;have:=A f;subst this;exact⟨_,tX (Gu d _) rfl rfl,by simp only[VR]⟩
  ·obtain⟨o,rfl⟩:=O f;have:=A j;subst this;exact⟨_,tY (Gv d _) rfl rfl,by simp only[VR];rfl⟩
  ·obtain⟨o,rfl⟩:=O j;have:=A f;subst this;exact⟨_,tY (Gu d _) rfl rfl,by simp only[VR];rfl⟩
 ·cases c
def aFe{b:UnOp}{g a:GV}{u:Value}(h:X8 b g=some a)(h1:GR F.ro g u):a.scalar=true/\∃z,(Op.unary b u).run P w=.ok z w/\GR F.ro a z:=by
 unfold X8 at h;split at h
 ·simp only[GR]at h1;subst h1;split at h
  ·cases h;exact⟨rfl,_,rfl,by simp only[GR]⟩
  ·cases h
 ·simp only[GR]at h1;subst h1;split at h
  ·cases h;exact⟨rfl,_,rfl,by simp only[GR]⟩
  ·simp only[bV,aY]at h;subst h;exact⟨rfl,_,rfl,by simp only[GR]⟩
  ·cases h
 ·cases h
def aEN{c:UnOp}{a v:AV}{u:Value}(b:OD c a=some v)(d:VR F a u):∃z,(Op.unary c u).run P w=.ok z w/\VR F v z:=by
 unfold OD at b;split at b
 ·next n=>
  obtain⟨_,g,_,e,f⟩:=nV (F:=F) b;simp only[VR]at d;obtain⟨g0,h,m,i⟩:=d;simp only[Nd.den,h]at e;obtain⟨j,z,k,l⟩:=aFe (P:=P) (w:=w) e i;exact⟨z,k,f z j l⟩
 ·cases b
def SR.swap(h:SR P F J w){id:Nat}{o o':bI}(n:J.get id=some o)(p:o'.own=o.own)(r:Live P F w id o'):SR P F (J.put id o') w:=by
 have b:∀k u,(J.put id o').get k=some u->∃c,J.get k=some c/\u.own=c.own:=by
  intro k u a;rw[aA.get_put]at a;split at a
  ·next e=>cases a;subst e;exact⟨o,n,p⟩
  ·exact⟨u,a,rfl⟩
 refine⟨h.nS,h.dom,λk u a=>?_,h.kK,λk u m c q s d f g i t x=>?_,h.jl,λk u q d f g=>?_,h.tabs⟩
 ·rw[aA.get_put]at a;split at a
  ·next e=>cases a;subst e;exact r
  ·exact h.live k u a
 ·obtain⟨v,j,l⟩:=b k u d;obtain⟨y,z,A⟩:=b m c g;exact h.sep k v m y q s j (l▸f) z i t x
 ·obtain⟨v,j,l⟩:=b k u d;exact h.lV k v q j (l▸f) g
def St.left{F':Env}{τ:aA}{w':World}(h:St P F τ w F' J' w')(a:τ.lock=J.lock)(z:τ.next=J.next)(f:∀k u,τ.get k=some u->u.own=true->∃A,J.get k=some A/\A.own=true):St P F J w F' J' w':=by
 refine⟨h.ext,h.rel,h.size,λB g i=>h.keep B g λk u q j l m n=>?_,λk u q j l m n=>?_,h.os,h.tape,h.output,h.lock.trans a,z▸h.next,z▸h.new,λb g=>?_⟩
 ·obtain⟨v,c,d⟩:=f k u j l;exact i k v q c d (a▸m) n
 ·rcases h.own k u q j l (a▸m) n with h1|⟨e,o,p,c,d,r,s,t⟩
  ·exact .inl h1
  ·obtain⟨v,x,y⟩:=f e o c d;exact .inr ⟨e,v,p,x,y,a▸r,s,t⟩
 ·rcases h.rF b g with h1|h1|⟨e,o,p,c,d,r,s,t⟩
  ·exact .inl h1
  ·exact .inr (.inl h1)
  ·obtain⟨v,x,y⟩:=f e o c d;exact .inr (.inr ⟨e,v,p,x,y,a▸r,s,t⟩)
def St.right{F':Env}{τ:aA}{w':World}(h:St P F J w F' J' w')(rel:SR P F' τ w')(c:τ.lock=J'.lock)(a:τ.next=J'.next)(d:∀k u,τ.get k=some u->u.own=true->∃b,J'.get k=some b/\b.own=true):St P F J w F' τ w':=by refine⟨h.ext,rel,h.size,h.keep,λk u q e f g i=>?_,h.os,h.tape,h.output,c.trans h.lock,by rw[a];exact h.next,by rw[a];exact h.new,h.rF⟩;obtain⟨v,j,l⟩:=d k u e f;exact h.own k v q j l g i
def bQ(xs:Q1):Q3:=dX (xs.flatMap GV.cells)
def Ql{xs:Q1}{sz:Nat}(h:∀x∈xs,x.cells.length=sz):(xs.flatMap GV.cells).length=xs.length*sz:=by
 induction xs with
 |nil=>simp
 |cons x xs a=>rw[kE,eP,h x (by simp),a (λy b=>h y (by simp[b])),gV,tH];omega
def atP{xs:Q1}{sz:Nat}(h:∀x∈xs,x.cells.length=sz)(i:Nat):(xs.flatMap GV.cells).drop (i*sz)=(xs.drop i).flatMap GV.cells:=by
 induction xs generalizing i with
 |nil=>simp
 |cons x xs b=>
  cases i with
  |zero=>simp
  |succ i=>have a:=h x (by simp);rw[kE,ad9,Io (by rw[a,tH];omega),a,aX,Yu,<-b (λy c=>h y (by simp[c]))];congr 1;rw[tH];omega
def atO{xs:Q1}{sz i:Nat}{x:GV}(h:∀x∈xs,x.cells.length=sz)(hi:xs[i]? =some x):((xs.flatMap GV.cells).drop (i*sz)).take sz=x.cells:=by
 rw[atP h];have:xs.drop i=x::xs.drop (i+1):=by obtain⟨a,rfl⟩:=fM.1 hi;exact iC a
 have b:=h x (rQ hi);rw[this,kE,S9 (by omega),lG (by omega)]
def VA(l:Q1)(n:Nat):dX (l.take n)=(dX l).take n:=by rw[yc,yc,aeh]
def Vz(l:Q1)(n:Nat):dX (l.drop n)=(dX l).drop n:=by rw[yc,yc,List.map_drop]
def Jr(l m:Q1):dX (l++m)=dX l++dX m:=by rw[yc,yc,yc,nM]
def ungroup:∀(xs:Q1)(vs:Q6),aC F (bQ xs) vs->(∀x∈xs,x.cells.all GV.scalar=true)->∃a,aS F.ro xs a/\dJ a=vs/\∀(k:Nat) x y,xs[k]? =some x->a[k]? =some y->y.cells.size=x.cells.length
 |[],vs,h,_=>by simp only[bQ,List.flatMap_nil,dX,aC]at h;subst h;exact⟨[],by simp[aS],rfl,by simp⟩
 |x::xs,vs,h,f=>by
  have m:aC F (dX x.cells++bQ xs) vs:=by rw[bQ,kE,Jr]at h;exact h
  have c:=m.take x.cells.length;have n:=m.drop x.cells.length;rw[S9 (by rw[nG];omega),lG (by rw[nG];omega)]at c;rw[Yr (by rw[nG];omega),Io (by rw[nG];omega),aX]at n;obtain⟨a,p,q,r⟩:=ungroup xs _ n (λy i=>f y (by simp[i]));have j:=c.length;rw[nG]at j;have fin:∀y,GR F.ro x y->y.cells.toList=vs.take x.cells.length->∃a,aS F.ro (x::xs) a/\dJ a=vs/\∀(k:Nat) e y,(x::xs)[k]? =some e->a[k]? =some y->y.cells.size=e.cells.length:=by
   intro y i d;refine⟨y::a,by simp only[aS];exact⟨y,a,rfl,i,p⟩,?_,?_⟩
   ·have:dJ (y::a)=y.cells.toList++dJ a:=by simp[dJ]
    rw[this,d,q,Iu]
   ·intro k e s l b;cases k with
    |zero=>simp at l b;subst l;subst b;rw[j,<-d];simp
    |succ k=>exact r k e s (by simpa using l) (by simpa using b)
  cases x with
  |g t=>exact fin (.agg ⟨vs.take t.length⟩) (by simp only[GR];exact⟨_,rfl,(qj _ _).2 c⟩) rfl
  |_=>simp only[GV.cells,dX,aC,gV,kY]at c j;obtain⟨u,z,v,o,rfl⟩:=c;refine fin u ((l9 _ _).2 o) ?_;rw[aju (GR.pX ((l9 _ _).2 o) rfl)];exact v.symm
def aS.scalars{ro:Qf}:∀{gs:Q1}{vs:Q6},aS ro gs vs->(∀v∈vs,pX v=true)->gs.all GV.scalar=true
 |[],_,_,_=>rfl
 |g::gs,vs,h,a=>by
  simp only[aS]at h;obtain⟨x,xs,rfl,h1,b⟩:=h;simp only[rH,aK];refine⟨?_,aS.scalars b λv c=>a v (by simp[c])⟩;cases g with
  |g d=>simp only[GR]at h1;obtain⟨vs,rfl,_⟩:=h1;have:=a (.agg ⟨vs⟩) (by simp);simp[pX]at this
  |_=>rfl
def OR.NK{q:Place}{m et:Nat}{f:Bool}(h:OR P F q w (.vec m et f)):∃xs,aH.val m=some (.l xs)/\(∀x∈xs,x.cells.length=q.es)/\et≠0/\0<q.es/\sizeT P et=some q.es/\xs.length*q.es<=q.sz/\(∀x∈xs,x.cells.all GV.scalar=true)/\OR P F q w (.cells (bQ xs) et true true):=by
 obtain⟨xs,l,b,n,o,p,s,i,t,u,j,r,z,_⟩:=h;obtain⟨A,B,D⟩:=r.room rfl;have c:∀x∈xs,x.cells.length=q.es:=by intro x E;obtain⟨k,d⟩:=Lr E;obtain⟨y,G,e⟩:=i.at d;rw[e.Zk];exact t y (rQ G)
 have g:aC F (bQ xs) (dJ o):=by rw[bQ,<-aap];exact agY ((qj _ _).1 i)
 refine⟨xs,p,c,A,B,D,j,z,l,b,n,s,{fits:=r.fits,le:=by rw[bQ,nG,Ql c];exact j,shut:=by simp,cell:=λk a d=>?_,free:=r.free,whole:=r.whole,room:=r.room}⟩;obtain⟨v,e,H⟩:=g.at d;exact⟨v,u k v e,H⟩
def OR.Yc{q:Place}{m et:Nat}(h:OR P F q w (.vec m et true)):q.es<=q.sz:=by obtain⟨c,d,a,e,f,g,i,j,k,l,n,r,o,b⟩:=h;exact b rfl
def OR.zo{q:Place}{m et:Nat}{f:Bool}{xs:Q1}(v:f=true->q.es<=q.sz)(j:aH.val m=some (.l xs))(d:∀x∈xs,x.cells.length=q.es)(e:∀x∈xs,x.cells.all GV.scalar=true){c:Q3}(h:OR P F q w (.cells c et true true))(z:∀vs,aC F c vs->aC F (bQ xs) vs):OR P F q w (.vec m et f):=by
 obtain⟨o,g,A,B,r⟩:=h;have p:=r.fits;have D:=r.le;have l:aC F c ((o.toList.drop q.ba).take c.length):=by refine aC.of (by simp;omega) λk a b=>?_;obtain⟨x,E,j⟩:=r.cell k a b;have n:=(fM.1 b).1;exact⟨x,by rw[mg,aj n,tC];simpa using E,j⟩
 have s:=z _ l;obtain⟨G,t,H,I⟩:=ungroup xs _ s e;have u:xs.length*q.es=c.length:=by have:=s.length;rw[bQ,nG,Ql d]at this;rw[this];simp;omega
 refine⟨xs,o,g,A,G,j,B,t,λy L=>?_,λk x b=>?_,by omega,{fits:=r.fits,le:=by simp,shut:=by simp,cell:=by simp,free:=r.free,whole:=r.whole,room:=r.room},e,v⟩
 ·obtain⟨k,b⟩:=Lr L;have i:k<xs.length:=by rw[t.length];exact(fM.1 b).1
  rw[I k _ y (bT i) b];exact d _ (gX i)
 ·rw[H,mg]at b;split at b
  ·rw[tC]at b;simpa using b
  ·cases b
def lK(J:aA)(id:Nat)(xs:Q1)(et:TypeId):aA:=J.put id (.cells (bQ xs) et true true)
def OH(h:SR P F J w){id m et:Nat}{f:Bool}{q:Place}(a:J.get id=some (.vec m et f))(b:F id=some q):∃xs,aH.val m=some (.l xs)/\(∀x∈xs,x.cells.length=q.es)/\et≠0/\0<q.es/\sizeT P et=some q.es/\xs.length*q.es<=q.sz/\(∀x∈xs,x.cells.all GV.scalar=true)/\SR P F (lK J id xs et) w:=by obtain⟨xs,c,d,e,g,i,j,k,l⟩:=(h.at a b).NK;exact⟨xs,c,d,e,g,i,j,k,h.swap a rfl (.inl ⟨q,b,l⟩)⟩
def Fz{id:Nat}{xs:Q1}{et:TypeId}:(lK J id xs et).get id=some (.cells (bQ xs) et true true):=by unfold lK;rw[aA.get_put,aj rfl]
def Sj{F':Env}{w':World}{id m et:Nat}{f:Bool}{xs:Q1}(b:J.get id=some (.vec m et f))(h:St P F (lK J id xs et) w F' J' w'):St P F J w F' J' w':=by
 refine h.left rfl rfl λk u a c=>?_;unfold lK at a;rw[aA.get_put]at a;split at a
 ·next e=>subst e;exact⟨_,b,rfl⟩
 ·exact⟨u,a,c⟩
def aFk{F':Env}{w':World}{id m et:Nat}{f:Bool}{q:Place}{xs:Q1}(i:f=true->q.es<=q.sz)(j:J.get id=some (.vec m et f))(l:F id=some q)(n:aH.val m=some (.l xs))(c:∀x∈xs,x.cells.length=q.es)(d:∀x∈xs,x.cells.all GV.scalar=true)(h:St P F J w F' (lK J id xs et) w'):St P F J w F' J w':=by
 have a:=h.ext.pl _ _ l;have g:=OR.zo i n c d (h.rel.at Fz a) (λ_ h=>h);refine h.right ((h.rel.swap (o':=.vec m et f) Fz rfl (.inl ⟨q,a,g⟩)).sub (λk o b=>?_) (dD _)) rfl rfl (λk o b p=>?_)
 ·unfold lK;rw[aA.get_put,aA.get_put];split
  ·next e=>rw[e,j]at b;exact b
  ·exact b
 ·unfold lK;rw[aA.get_put];split
  ·exact⟨_,rfl,rfl⟩
  ·exact⟨o,b,p⟩
def UH{m:Nat}{g:GV}(j:aH.val m=some g):∀(n off:Nat){l:Q3},Jd m off n=some l->∃r,takeN (dX g.cells) off n=some r/\∀vs,aC F r vs->aC F l vs
 |0,off,l,h=>by simp only[Jd,aY]at h;subst h;exact⟨[],by simp[takeN],λ_ h=>h⟩
 |n+1,off,l,h=>by
  simp only[Jd]at h;split at h
  ·next a r p q=>
   cases h;obtain⟨_,f,_,b,s⟩:=nV (F:=F) p;simp only[Nd.den,j]at b;split at b
   ·next c k=>
    split at b
    ·next t=>
     cases b;obtain⟨u,v,y⟩:=UH j n (off+1) q;obtain⟨z,A,I⟩:=uo v;refine⟨lH f::u,?_,?_⟩
     ·have B:off<g.cells.length:=(fM.1 k).1;have D:(dX g.cells).drop off=lH f::(dX g.cells).drop (off+1):=by
       have d:(dX g.cells)[off]? =some (lH f):=by rw[Qp,k];rfl
       obtain⟨i,E⟩:=fM.1 d;rw[iC i,E]
      unfold takeN;simp only[D,Am,<-z,gV,A,if_true]
     ·intro vs e;simp only[aC]at e⊢;obtain⟨x,o,rfl,G,H⟩:=e;exact⟨x,o,rfl,s x t ((l9 _ _).2 G),y o H⟩
    ·cases b
   ·cases b
  ·cases h
def adf{t:TypeId}{m off:Nat}{g:GV}{v:AV}(f:aH.val m=some g)(h:RU P t m off=some v):∃r,(match oP P t with
 |some true=>match sizeT P t with
  |some n=>(takeN (dX g.cells) off n).map .agg
  |none=>none
 |some false=>(dX g.cells)[off]?
 |none=>none)=some r/\∀y,VR F r y->VR F v y:=by
 unfold RU at h;split at h
 ·next d=>
  split at h
  ·next n j=>
   obtain⟨l,k,rfl⟩:=bC.1 h;obtain⟨r,o,a⟩:=UH (F:=F) f n off k;rw[d,j];refine⟨.agg r,by simp[o],λy b=>?_⟩;simp only[VR]at b⊢;obtain⟨i,rfl,e⟩:=b;exact⟨i,rfl,a i e⟩
  ·cases h
 ·next d=>
  obtain⟨_,p,_,a,e⟩:=nV (F:=F) h;simp only[Nd.den,f]at a;split at a
  ·next c q=>
   split at a
   ·next s=>
    cases a;rw[d];exact⟨lH p,by simp only;rw[Qp,q];rfl,λy b=>e y s ((l9 _ _).2 b)⟩
   ·cases a
  ·cases a
 ·cases h
def aEI(h:SR P F J w){t:TypeId}{a v:AV}{x:Value}(d:XP P t J a=some v)(E:VR F a x):∃y,(Instr.loadAt t x).run P w=.ok y w/\VR F v y:=by
 unfold XP at d;split at d
 ·next m b=>
  simp only[VR]at E;obtain⟨g,V,base,cs,z,fr,u,H,I,W,rfl,X⟩:=E;obtain⟨r,l,L⟩:=adf (F:=F) H d;have M:VR F (.rp (lH g) b) (.pointer (some ⟨V,base+b,none⟩)):=by simp only[VR];exact⟨V,base,cs,z,fr,u,I,(l9 _ _).1 W,rfl,X⟩
  have N:xQ P t J (.rp (lH g) b)=some r:=by simp only[xQ,Nh];exact l
  obtain⟨y,s,O⟩:=G6 h N M;exact⟨y,s,L y O⟩
 ·next id i b=>
  split at d
  ·next m et _ hg=>
   split at d
   ·next Y Q=>
    split at d
    ·next e he=>
     simp only[VR]at E;obtain⟨q,k,j,Z,hj,rfl⟩:=E;obtain⟨G,H,I,W,X,s,_,_,hS⟩:=OH h hg Z;rw[Q]at s;cases s;obtain⟨g,g1,o⟩:=gU he;simp only[Nd.den,H,hj]at o;split at o
     ·next aa=>
      split at o
      ·next x R=>
       split at o
       ·next A=>
        cases o;obtain⟨r,l,L⟩:=adf (F:=F) g1 d;have B:=atO I R;have p:∀n f,takeN (dX g.cells) b n=some f->takeN (bQ G) (j.toNat*q.es+b) n=some f:=by
         intro n f c;obtain⟨e1,e2,e3⟩:=uo c;rw[nG]at e3;have:((bQ G).drop (j.toNat*q.es+b)).take n=f:=by rw[<-rJ,bQ,<-Vz,e1,<-B,VA,Lp,aem];congr 1;rw[A]at e3;omega
         unfold takeN;simp only[this,e2,if_true]
        have D:∀f,(dX g.cells)[b]? =some f->(bQ G)[j.toNat*q.es+b]? =some f:=by
         intro f c;have S:b<q.es:=by have:=(fM.1 c).1;rw[nG,A]at this;exact this
         rw[<-B,VA,mg,aj S,Vz,tC]at c;exact c
        have N:xQ P t (lK J id G et) (.p id (j.toNat*q.es+b))=some r:=by
         simp only[xQ,Fz];split at l
         ·next T=>
          rw[T];split at l
          ·next n hn=>
           rw[hn];obtain⟨f,c,rfl⟩:=bC.1 l;simp only[p n f c,gZ]
          ·cases l
         ·next T=>rw[T];exact D r l
         ·cases l
        obtain⟨y,s,O⟩:=G6 hS N (x:=.pointer (some ⟨q.bl,q.ba+j.toNat*q.es+b,none⟩)) (by simp only[VR];exact⟨q,Z,by rw[jL]⟩);exact⟨y,s,L y O⟩
       ·cases o
      ·cases o
     ·cases o
    ·cases d
   ·cases d
  ·cases d
 ·cases d
def aEE{t:TypeId}{a v:AV}{x:Value}{f:Nat}(h:XL P t a f=some v)(d:VR F a x):∃y,(Instr.fieldAt t x f).run P w=.ok y w/\VR F v y:=by
 unfold XL at h;split at h
 ·next e j=>
  split at h
  ·next l o=>
   split at h
   ·next n p=>
    split at h
    ·cases h
    ·next r=>
     split at h
     ·next m b=>
      cases h;simp only[VR]at d;obtain⟨g,s,base,z,c,A,u,B,D,E,rfl,G⟩:=d;refine⟨.pointer (some ⟨s,base+b+l.offset,none⟩),?_,?_⟩
      ·simp[Instr.fieldAt,bf j,o,Instr.sureAddr,fieldPlace,jv p,r,rX]
      ·simp only[VR];exact⟨g,s,base,z,c,A,u,B,D,E,by rw[jL],G⟩
     ·next id m b=>
      cases h;simp only[VR]at d;obtain⟨q,k,i,H,hi,rfl⟩:=d;refine⟨.pointer (some ⟨q.bl,q.ba+i.toNat*q.es+b+l.offset,none⟩),?_,?_⟩
      ·simp[Instr.fieldAt,bf j,o,Instr.sureAddr,fieldPlace,jv p,r,rX]
      ·simp only[VR];exact⟨q,k,i,H,hi,by rw[jL]⟩
     ·cases h
   ·cases h
  ·cases h
 ·cases h
def QM{i:Nat}{g:GV}{y:Value}(l:aH.val i=some g)(e:GR F.ro g y):∀{c j:Nat}{k:AV},JG i c j=some k->∃(a:IntKind)(m:Int),k=.i .i64 m/\y=.int a m
 |0,j,k,h=>by cases h
 |c+1,j,k,h=>by
  unfold JG at h;have n:∀{r v},lu (.Bd i j)=some r->(∀x,VR F r x->VR F (.b v) x)->∃(a:IntKind)(m:Int),g=.i a m/\decide (m=(j:Int))=v:=by
   intro r v b d;obtain⟨_,z,A,f,q⟩:=nV (F:=F) b;simp only[Nd.den,l]at f;cases g with
   |i a m=>simp only[aY]at f;subst f;have:=d _ (q (.bool (decide (m=(j:Int)))) rfl (by simp only[GR]));simp only[VR]at this;cases this;exact⟨a,m,rfl,rfl⟩
   |_=>cases f
  have fin:∀{r},lu (.Bd i j)=some r->(∀x,VR F r x->VR F (.b true) x)->some (AV.i .i64 (j:Int))=some k->∃(a:IntKind)(m:Int),k=.i .i64 m/\y=.int a m:=by
   intro r b d s;obtain⟨a,m,rfl,o⟩:=n b d;cases s;have o:m=(j:Int):=by simpa using o
   subst o;simp only[GR]at e;exact⟨a,_,rfl,e⟩
  split at h
  ·next b=>exact fin b (λ_ h=>h) h
  ·next b=>exact QM l e h
  ·next m b=>
   split at h
   ·next p=>
    obtain⟨v,d,t⟩:=Jh p;cases d;exact fin b (λx u=>t F x u) h
   ·next p=>exact QM l e h
   ·cases h
  ·cases h
def aEF(h:SR P F J w){t:TypeId}{a i v:AV}{x y:Value}(b:XO P J t a i=some v)(d:VR F a x)(hy:VR F i y):∃z,(Instr.indexAt t x y).run P w=.ok z w/\VR F v z:=by
 unfold XO at b;split at b
 ·next e H=>
  split at b
  ·next aa ni f I=>
   obtain⟨gi,r,i2,l⟩:=ng I hy;split at b
   ·next n=>
    obtain⟨m,L,rfl⟩:=bC.1 b;obtain⟨g,M,c⟩:=gU L;simp only[VR]at d;obtain⟨gl,N,l2,l3⟩:=d;simp only[Nd.den,N,r]at c;split at c
    ·next p k j O Q=>
     cases O;cases Q;simp only[GR]at l;subst l;split at c
     ·next B=>
      split at c
      ·next z hz=>
       split at c
       ·next R=>
        cases c;have S:zH P t (.ro (dX p)) (.i k j)=some (.rp (lH g) 0):=by
         have:(dX p)[j.toNat]? =some (lH g):=by rw[Qp,hz];rfl
         simp only[zH,H,xP,f,aj B,this,Nh,nG,R,if_true]
        obtain⟨T,D,E⟩:=QE (P:=P) (w:=w) S ((l9 (.l p) x).1 l3) (by simp only[VR]:VR F (.i k j) (.int k j));refine⟨T,D,?_⟩;simp only[VR]at E⊢;obtain⟨bl,base,cs,s,fr,u,k1,k2,k3,k4⟩:=E;exact⟨g,bl,base,cs,s,fr,u,M,k1,(l9 _ _).2 k2,k3,k4⟩
       ·cases c
      ·cases c
     ·cases c
    ·cases c
   ·next id n=>
    split at b
    ·next m et _ hg=>
     split at b
     ·next V=>
      have Jy:=bK V;subst Jy;obtain⟨m',L,rfl⟩:=bC.1 b;obtain⟨g,M,c⟩:=gU L;simp only[VR]at d;obtain⟨p,N,d⟩:=d;simp only[Nd.den,N,r]at c;split at c
      ·next ab k j O Q=>
       cases O;cases Q;simp only[GR]at l;subst l;split at c
       ·next B=>
        cases c;rcases d with⟨q,G,W,rfl⟩|⟨_,rfl,_⟩
        ·obtain⟨_,_,_,_,_,D,_⟩:=(h.at hg G).NK;rw[f]at D;cases D;have S:zH P t (.sl id 0 p.length none) (.i k j)=some (.p id (0+j.toNat*q.es)):=by simp only[zH,H,xP,f,aj B]
         obtain⟨T,E,h7⟩:=QE (P:=P) (w:=w) (x:=.slice (some ⟨q.bl,q.ba,none⟩) p.length (q.sz/q.es)) S (by simp only[VR];exact⟨q,G,by simpa using W,by simp⟩) (by simp only[VR]:VR F (.i k j) (.int k j));refine⟨T,E,?_⟩;simp only[VR]at h7⊢;obtain⟨q',A,rfl⟩:=h7;rw[G]at A;cases A;exact⟨q,.i64,j,G,M,by simp⟩
        ·simp at B;omega
       ·cases c
      ·cases c
     ·cases b
    ·cases b
   ·next id X len Y=>
    split at b
    ·next k Z=>
     obtain⟨kk,m,rfl,rfl⟩:=QM r l Z;have o:zH P t (.sl id X len Y) (.i kk m)=some v:=b;exact QE o d (by simp only[VR])
    ·cases b
   ·cases b
  ·cases b
 ·next len e H=>
  split at b
  ·next ni hi=>
   obtain⟨g,r,_,l⟩:=ng hi hy;split at b
   ·next k Z=>
    obtain⟨kk,m,rfl,rfl⟩:=QM r l Z;have o:zH P t a (.i kk m)=some v:=b;exact QE o d (by simp only[VR])
   ·cases b
  ·cases b
 ·cases b
def aEH{t:TypeId}{ts:Wr}{ty:TypeId}{a v:AV}{x:Value}(r:ts[0]? =some t)(j:ade P t a=some v)(h:VR F a x):
 ∃y,(Builtin.len_ ts ty #[x]).run P w=.ok y w/\VR F v y:=by
 have m:∀s:Q0,P.underlying t=some .string->(Builtin.len_ ts ty #[.string ⟨⟨s⟩⟩]).run P w=.ok (.int .i64 s.length) w:=λs f=>by simp[Builtin.len_,r,bf f,goInt,strSize]
 have l:∀(e:TypeId) b (n c:Nat),P.underlying t=some (.slice e)->(Builtin.len_ ts ty #[.slice b n c]).run P w=.ok (.int .i64 n) w:=λe b n c f=>by simp[Builtin.len_,r,bf f,goInt]
 unfold ade at j;split at j
 ·next n f=>
  obtain⟨_,g,_,d,i⟩:=nV (F:=F) j;simp only[VR]at h;obtain⟨g0,o,u,k⟩:=h;simp only[Nd.den,o]at d;split at d
  ·next s p=>
   cases p;cases d;simp only[GR]at k;subst k;exact⟨_,m s f,i _ rfl (by simp only[GR])⟩
  ·cases d
 ·next e n f=>
  obtain⟨_,g,_,d,i⟩:=nV (F:=F) j;simp only[VR]at h;obtain⟨g0,o,u,k⟩:=h;simp only[Nd.den,o]at d;split at d
  ·next z p=>
   cases p;cases d;simp only[GR]at k;rcases k with⟨rfl,_,rfl⟩|⟨E,A,c,G,H,rfl,_⟩
   ·exact⟨_,l e _ _ _ f,i _ rfl (by simp only[GR];rfl)⟩
   ·exact⟨_,l e _ _ _ f,i _ rfl (by simp only[GR])⟩
  ·cases d
 ·next e id n f=>
  obtain⟨_,g,_,d,i⟩:=nV (F:=F) j;simp only[VR]at h;obtain⟨z,B,h⟩:=h;simp only[Nd.den,B,aY]at d;subst d;rcases h with⟨q,I,D,rfl⟩|⟨_,rfl,rfl⟩
  ·exact⟨_,l e _ _ _ f,i _ rfl (by simp only[GR])⟩
  ·exact⟨_,l e _ _ _ f,i _ rfl (by simp only[GR];rfl)⟩
 ·cases j
def aEG{t:TypeId}{a i v:AV}{x y:Value}(b:XM P t a i=some v)(p:VR F a x)(q:VR F i y):∃z,(Instr.index t x y).run P w=.ok z w/\VR F v z:=by
 unfold XM at b;split at b
 ·next r=>
  split at b
  ·next n A B h=>
   obtain⟨S,l,T,f⟩:=ng h q;obtain⟨V,D,W,u⟩:=ng B p;obtain⟨_,g,_,d,E⟩:=nV (F:=F) b;simp only[Nd.den,D,l]at d;split at d
   ·next s k j G H=>
    cases G;cases H;simp only[GR]at f;subst f;simp only[GR]at u;subst u;split at d
    ·next I=>
     split at d
     ·next c L=>
      cases d;have M:FW P t (.s s) (.i k j)=some (.i .u8 c.toNat):=by simp only[FW,r,xP,aj I,L]
      obtain⟨z,N,O⟩:=aaQ (P:=P) (w:=w) (F:=F) M (by simp only[VR]:VR F (.s s) (.string ⟨⟨s⟩⟩)) (by simp only[VR]:VR F (.i k j) (.int k j));exact⟨z,N,E z rfl ((l9 _ _).2 O)⟩
     ·cases d
    ·cases d
   ·cases d
  ·cases b
 ·next len e r=>
  split at b
  ·next A hi=>
   obtain⟨g,l,_,f⟩:=ng hi q;split at b
   ·next k Q=>
    obtain⟨R,m,rfl,rfl⟩:=QM l f Q;have o:FW P t a (.i R m)=some v:=b;exact aaQ o p (by simp only[VR])
   ·cases b
  ·cases b
 ·cases b
def afc{F:Env}{lo:Q4}{b:Wz}{l:Nat}{d:Nd}{e:GV}(i:(match lo with|none=>fQ d|some a=>jg a)=some l)(f:mD F lo b)(j:aH.val l=some e):
 (lo=none/\b=none/\d.den aH.I aH.val=some e)\/(∃v,b=some v/\GR F.ro e v):=by
 cases lo with
 |none=>
  obtain⟨g,c,k⟩:=gU i;rw[j]at c;cases c;refine .inl ⟨rfl,?_,k⟩;cases b with
  |none=>rfl
  |some v=>simp[mD]at f
 |some a=>
  cases b with
  |none=>simp[mD]at f
  |some v=>
   have h:VR F a v:=by simpa[mD]using f
   obtain⟨g,c,_,m⟩:=ng i h;rw[j]at c;cases c;exact .inr ⟨v,rfl,m⟩
def adg{lo hi:Q4}{f g:Wz}{l h:Nat}{d:Nd}{k m:IntKind}{j c:Int}{len:Nat}(n:PD lo=some l)(o:Um d hi=some h)(h1:mD F lo f)(s:mD F hi g)
 (t:aH.val l=some (.i k j)) (u:aH.val h=some (.i m c)) (x:d.den aH.I aH.val=some (.i m c)->c=len) (h0:0<=j) (y:j<=c) (z:c<=len):
 ∃a b:Q4,mD F a f/\mD F b g/\yR len (λh=>Nat.ble h len) a b=some (j.toNat,c.toNat):=by
 have p:=afc (d:=.ci .i64 0) (by cases lo<;>exact n) h1 t;have q:=afc (d:=d) (by cases hi<;>exact o) s u;have i:Nat.ble c.toNat len=true:=aeo (by omega);have A:∃b:Q4,mD F b g/\BR len (λh=>Nat.ble h len) b=some c.toNat:=by
  rcases q with⟨_,r,e⟩|⟨v,rfl,e⟩
  ·refine⟨none,by rw[r];simp[mD],?_⟩;simp only[BR];rw[x e];simp
  ·simp only[GR]at e;subst e;exact⟨some (.i m c),by simp[mD,VR],by simp only[BR,xP];rw[aj ⟨by omega,i⟩]⟩
 have B:∃a:Q4,mD F a f/\LW c.toNat a=some j.toNat:=by
  rcases p with⟨_,r,e⟩|⟨v,rfl,e⟩
  ·refine⟨none,by rw[r];simp[mD],?_⟩;simp only[Nd.den,aY,GV.i.injEq]at e;simp only[LW];rw[<-e.2];rfl
  ·simp only[GR]at e;subst e;exact⟨some (.i k j),by simp[mD,VR],by simp only[LW,xP];rw[aj ⟨h0,by omega⟩]⟩
 obtain⟨b,D,E⟩:=A;obtain⟨a,G,H⟩:=B;exact⟨a,b,G,D,by simp only[yR,E,H]⟩
def alK(h:SR P F J w){t:TypeId}{a v:AV}{x:Value}{lo hi:Q4}{o p:Wz}(b:RV P t a lo hi=some v)(H:VR F a x)(q:mD F lo o)(r:mD F hi p):
 ∃y,(Instr.sliceAt t x o p none).run P w=.ok y w/\VR F v y:=by
 unfold RV at b;split at b
 ·next I=>
  split at b
  ·next n hn=>
   split at b
   ·next l hh L M=>
    obtain⟨gs,u,s2,E⟩:=ng hn H;obtain⟨_,g,_,c,N⟩:=nV (F:=F) b;simp only[Nd.den,u]at c;split at c
    ·next s k G k' d O Q R=>
     cases O;split at c
     ·next A=>
      cases c;simp only[GR]at E;subst E;obtain⟨j,m,S,T,V⟩:=adg (len:=s.length) L M q r Q R (λB=>by simp only[Nd.den,u,aY,GV.i.injEq]at B;exact B.2.symm) A.1 A.2.1 A.2.2;have W:BX P t J (.s s) j m=some (.s ((s.take d.toNat).drop G.toNat)):=by simp only[BX,I,V,gZ]
      obtain⟨z,X,Y⟩:=XA h W (by simp only[VR]:VR F (.s s) (.string ⟨⟨s⟩⟩)) S T;exact⟨z,X,N z rfl ((l9 _ _).2 Y)⟩
     ·cases c
    ·cases c
   ·cases b
  ·cases b
 ·next e I=>
  split at b
  ·next n D Z=>
   split at b
   ·next l hh L M=>
    simp only[VR]at H;obtain⟨gs,u,s2,E⟩:=H;obtain⟨_,g,_,c,N⟩:=nV (F:=F) b;simp only[Nd.den,u]at c;split at c
    ·next f k G k' d O Q R=>
     cases O;split at c
     ·next A=>
      cases c;obtain⟨c1,c2,c3,c4⟩:=A;obtain⟨j,m,S,T,V⟩:=adg (len:=f.length) L M q r Q R (λB=>by simp only[Nd.den,u,aY,GV.i.injEq]at B;exact B.2.symm) c1 c2 c3;have W:BX P t J (.ro (dX f)) j m=some (.ro (dX ((f.take d.toNat).drop G.toNat))):=by
       simp only[BX,I,Z,nG,V,Aq];unfold TS;split
       ·next e=>
        have:(f.take d.toNat).drop G.toNat=[]:=Io (by simp;omega);rw[this];rfl
       ·next e=>
        have i:0<f.length:=by omega
        have h0:(dX f)[0]? =some (lH f[0]):=by rw[Qp,bT i];rfl
        rw[h0];simp only;have aa:(lH f[0]).cells.length=D:=by rw[Nh,nG];rw[List.all_eq_true]at c4;exact bK (c4 _ (gX i))
        rw[aj aa,Vz,VA]
      obtain⟨z,X,Y⟩:=XA h W ((l9 (.l f) x).1 E) S T;exact⟨z,X,N z rfl ((l9 _ _).2 (by simpa only[lH]using Y))⟩
     ·cases c
    ·cases c
   ·cases b
  ·cases b
 ·cases b
def azW{cs vs r:Q1}{off:Nat}(h:putCells cs off vs=some r):off+vs.length<=cs.length/\r=cs.take off++vs++cs.drop (off+vs.length):=by
 unfold putCells at h;split at h
 ·next a=>cases h;exact⟨a,rfl⟩
 ·cases h
def GV.az1{x y:GV}{off:Nat}{vs:Q1}(h:x.put off vs=some y)(c:vs.all GV.scalar=true)(e:x.cells.all GV.scalar=true):off+vs.length<=x.cells.length/\y.cells=x.cells.take off++vs++x.cells.drop (off+vs.length)/\y.cells.length=x.cells.length/\y.cells.all GV.scalar=true:=by
 have fin:∀r:Q1,off+vs.length<=x.cells.length->r=x.cells.take off++vs++x.cells.drop (off+vs.length)->r.length=x.cells.length/\r.all GV.scalar=true:=by intro r f d;subst d;refine⟨by simp;omega,?_⟩;rw[ad3,ad3,c];rw[List.all_eq_true]at e;simp only[SH,aK,List.all_eq_true];exact⟨λa j=>e a (LC j),λa j=>e a (Lu j)⟩
 have one:∀v,off=0->vs=[v]->x.cells.length=1->y=v->off+vs.length<=x.cells.length/\y.cells=x.cells.take off++vs++x.cells.drop (off+vs.length)/\y.cells.length=x.cells.length/\y.cells.all GV.scalar=true:=by intro v p q k t;subst p;subst q;subst t;simp only[rH,ad4,SH]at c;have m:y.cells=[y]:=GV.KI c;refine⟨by simp[k],?_,by rw[m,k];rfl,by rw[m];simp[c]⟩;rw[m,Io (by rw[k];simp)];simp
 unfold GV.put at h;split at h
 ·next o=>
  obtain⟨r,u,rfl⟩:=bC.1 h;obtain⟨f,d⟩:=azW u;obtain⟨z,A⟩:=fin r f d;exact⟨f,d,z,A⟩
 ·next n=>
  have B:x.cells.length=1:=by
   cases x with
   |g o=>exact absurd rfl (n o)
   |_=>rfl
  split at h
  ·next v=>cases h;exact one y rfl rfl B rfl
  ·cases h
def ag0{y:GV}{vs:Q1}{off sz:Nat}:∀{xs:Q1}{i:Nat}{x:GV},(∀z∈xs,z.cells.length=sz)->xs[i]? =some x->off+vs.length<=sz->y.cells=x.cells.take off++vs++x.cells.drop (off+vs.length)->
 (xs.set i y).flatMap GV.cells=(xs.flatMap GV.cells).take (i*sz+off)++vs++(xs.flatMap GV.cells).drop (i*sz+off+vs.length)
 |[],i,x,_,hi,_,_=>by simp at hi
 |z::xs,0,x,c,hi,a,d=>by simp only[kX,aY]at hi;subst hi;have f:=c z (by simp);rw[List.set_cons_zero,kE,kE,d];rw[S9 (by omega),Yr (by omega)];simp[List.append_assoc]
 |z::xs,i+1,x,c,hi,a,d=>by
  have f:=c z (by simp);have g:=ag0 (i:=i) (λu h=>c u (yK _ h)) (by simpa using hi) a d;rw[List.set_cons_succ,kE,kE,g];have j:∀(b:Q1) k,(z.cells++b).take (z.cells.length+k)=z.cells++b.take k:=λF k=>by rw[List.take_append,lG (by omega),YE]
  have l:∀(b:Q1) k,(z.cells++b).drop (z.cells.length+k)=b.drop k:=λF k=>by rw[ad9,Io (by omega),aX,YE]
  have e:(i+1)*sz+off=z.cells.length+(i*sz+off):=by rw[f,tH];omega
  rw[e,j,jL z.cells.length,l];simp[List.append_assoc]
def abq:∀{l:Q3}{b:Q2},nodesOf l=some b->l.all AV.oO=true
 |[],_,_=>rfl
 |a::l,b,h=>by
  simp only[nodesOf]at h;split at h
  ·next n r c d=>
   simp only[rH,aK];exact⟨by cases a<;>simp[jg]at c<;>rfl,abq d⟩
  ·cases h
def aC.split{l m:Q3}:∀{vs:Q6},aC F (l++m) vs->∃a b,vs=a++b/\aC F l a/\aC F m b:=by
 intro vs h;have c:=h.length;rw[eP]at c;refine⟨vs.take l.length,vs.drop l.length,(Iu _ _).symm,?_,?_⟩
 ·have:=h.take l.length;rwa [S9 (by omega),lG (by omega)]at this
 ·have:=h.drop l.length;rwa [Yr (by omega),Io (by omega),aX]at this
def aEM(h:SR P F J w){t:TypeId}{a v:AV}{x y:Value}(d:XV P t J a v=some J')(n:VR F a x)(N:VR F v y):
 ∃w',(Instr.storeAt t x y).run P w=.ok () w'/\St P F J w F J' w':=by
 unfold XV at d;split at d
 ·next id i b=>
  split at d
  ·next m r f O=>
   split at d
   ·next hc=>
    obtain⟨Q,R⟩:=hc;split at d
    ·next ag vs S s=>
     split at d
     ·next m' T=>
      cases d;simp only[VR]at n;obtain⟨q,k,j,B,hj,rfl⟩:=n;obtain⟨c,h1,V,h3,h4,h5,h6,D,hS⟩:=OH h O B;rw[S]at h5;cases h5;obtain⟨W,g1,g2,g3⟩:=WR s (AL N);obtain⟨g,k1,p⟩:=gU T;simp only[Nd.den,h1,hj,g1]at p;split at p
      ·next ai=>
       split at p
       ·next u X=>
        split at p
        ·next Ew=>
         obtain⟨z,hz,rfl⟩:=bC.1 p;obtain⟨p1,p2,p3,p4⟩:=GV.az1 hz g2 (D u (rQ X));have Y:=ag0 V X (by omega) p2;have E:v.cells.length=W.length:=by rw[g3.length,(AL N).length]
         have Z:j.toNat<c.length:=(fM.1 X).1;have aa:(bQ c).length=c.length*q.es:=by rw[bQ,nG,Ql V]
         have ab:j.toNat*q.es+b+v.cells.length<=(bQ c).length:=by rw[aa,E];have:(j.toNat+1)*q.es<=c.length*q.es:=uD _ Z;rw[tH]at this;omega
         have G:BD (bQ c) (j.toNat*q.es+b) v.cells=some ((bQ c).take (j.toNat*q.es+b)++v.cells++(bQ c).drop (j.toNat*q.es+b+v.cells.length)):=by unfold BD;rw[aj ab]
         have ac:FX P t (lK J id c r) (.p id (j.toNat*q.es+b)) v=some ((lK J id c r).put id (.cells ((bQ c).take (j.toNat*q.es+b)++v.cells++(bQ c).drop (j.toNat*q.es+b+v.cells.length)) r true true)):=by simp only[FX,Fz];rw[aj ⟨Q,R,abq s⟩,G];rfl
         obtain⟨w',H,l⟩:=XH hS ac (x:=.pointer (some ⟨q.bl,q.ba+j.toNat*q.es+b,none⟩)) (by simp only[VR];exact⟨q,B,by rw[jL]⟩) N;refine⟨w',H,(Sj O l).right ?_ rfl rfl ?_⟩
         ·have ad:=l.rel.at (id:=id) (q:=q) (by rw[aA.get_put,aj rfl]) B;have I:OR P F q w' (.vec m' r f):=by
           refine OR.zo (λe=>by subst e;exact(h.at O B).Yc) k1 ?_ ?_ ad ?_
           ·intro x n;rcases aej n with n|rfl
            ·exact V x n
            ·rw[p3,Ew]
           ·intro x n;rcases aej n with n|rfl
            ·exact D x n
            ·exact p4
           ·intro us ae;have e1:bQ (c.set j.toNat z)=(bQ c).take (j.toNat*q.es+b)++dX W++(bQ c).drop (j.toNat*q.es+b+W.length):=by unfold bQ;rw[Y,Jr,Jr,VA,Vz]
            rw[e1,<-E];obtain⟨u1,u2,rfl,q1,q2⟩:=aC.split ae;obtain⟨u3,u4,rfl,q3,q4⟩:=aC.split q1;obtain⟨ak,L,_,af⟩:=WR s q4;rw[g1]at L;cases L;exact(q3.append ((qj _ _).1 af)).append q2
          have M:=aA.get_put (lK J id c r) id id (.cells ((bQ c).take (j.toNat*q.es+b)++v.cells++(bQ c).drop (j.toNat*q.es+b+v.cells.length)) r true true);rw[aj rfl]at M;have:=l.rel.swap (o':=.vec m' r f) M rfl (.inl ⟨q,B,I⟩);refine this.sub (λal o A=>?_) (dD _);unfold lK;rw[aA.get_put]at A⊢;split at A
          ·next e=>rw[aj e];exact A
          ·next e=>rw[ah e,aA.get_put,ah e,aA.get_put,ah e];exact A
         ·intro k' u' hk A;rw[aA.get_put]at hk⊢;split at hk
          ·next e=>rw[aj e];exact⟨_,rfl,rfl⟩
          ·next e=>
           rw[ah e];unfold lK;rw[aA.get_put,ah e];exact⟨u',hk,A⟩
        ·cases p
       ·cases p
      ·cases p
     ·cases d
    ·cases d
   ·cases d
  ·cases d
 ·cases d
def Env.ghost(F:Env)(id:Nat):Env:=⟨F.pl,F.ro,λk=>Nat.beq k id ||F.gh k⟩
def St.ghost(h:SR P F J w){τ:aA}{m et:Nat}{f:Bool}(A:aH.val m=some (.l []))(B:τ.lock=J.lock)(D:τ.next=J.next)(l:∀k o,τ.get k=some o->J.get k=some o):
 St P F J w (F.ghost J.next) (τ.new (.vec m et f)) w:=by
 have c:F.le (F.ghost J.next):=⟨λ_ _ h=>h,λ_ _ h=>h,λid n=>by simp[Env.ghost,n]⟩
 have get:∀k o,(τ.new (.vec m et f)).get k=some o->(k=J.next/\o=.vec m et f)\/(k≠J.next/\J.get k=some o):=by
  intro k o t;rw[aA.qE,D]at t;split at t
  ·next e=>cases t;exact .inl ⟨e,rfl⟩
  ·next e=>exact .inr ⟨e,l k o t⟩
 have pl:∀k,(F.ghost J.next) k=F k:=λ_=>rfl;have b:∀k q,k=J.next->F k=some q->False:=λk q e d=>by have:=h.dom k q d;omega
 refine⟨c,⟨h.nS,λid q d=>?_,λid o E=>?_,λid n=>?_,λid o g v q x r s j u y z=>?_,h.jl,λid o q r s j=>?_,λp G=>(h.tabs p G).mono c⟩,dD _,λ_ _ _=>rfl,λid o q r s j u=>?_,rfl,rfl,rfl,B,?_,?_,λ_ h=>.inl h⟩
 ·have:=h.dom id q d;show id<τ.next+1;omega
 ·rcases get id o E with⟨rfl,rfl⟩|⟨_,i⟩
  ·exact .inr ⟨by simp[Env.ghost],m,et,f,rfl,A⟩
  ·exact(h.live id o i).mono c
 ·have a:(Nat.beq id J.next ||F.gh id)=true:=n;rw[oK]at a;rcases a with a|a
  ·have e:=bK a;subst e;refine⟨?_,by show J.next<τ.next+1;omega⟩;rw[pl];cases d:F J.next with
   |none=>rfl
   |some q=>exact absurd (h.dom _ q d) (by omega)
  ·have:=h.kK id a;exact⟨this.1,by show id<τ.next+1;omega⟩
 ·rcases get id o r with⟨e,_⟩|⟨_,i⟩
  ·exact(b id q e y).elim
  ·rcases get g v j with⟨e,_⟩|⟨_,H⟩
   ·exact(b g x e z).elim
   ·exact h.sep id o g v q x i s H u y z
 ·rcases get id o r with⟨e,_⟩|⟨_,i⟩
  ·exact(b id q e j).elim
  ·exact h.lV id o q i s j
 ·rcases get id o r with⟨e,_⟩|⟨_,i⟩
  ·exact(b id q e u).elim
  ·exact .inr ⟨id,o,q,i,s,j,u,rfl⟩
 ·show J.next<=τ.next+1;omega
 ·rintro id (⟨q,d⟩|n)
  ·exact .inl (.inl ⟨q,d⟩)
  ·have a:(Nat.beq id J.next ||F.gh id)=true:=n;rw[oK]at a;rcases a with a|a
   ·have e:=bK a;right;show J.next<=id/\id<τ.next+1;omega
   ·exact .inl (.inr a)
def zY:∀(f:Nat){m n:Nat}{xs p:Q1},xA f m n=true->aH.val m=some (.l xs)->aH.val n=some (.l p)->xs.length=p.length
 |0,m,n,xs,p,h,h1,d=>by have:=bK h;subst this;rw[h1]at d;cases d;rfl
 |f+1,m,n,xs,p,h,h1,d=>by
  simp only[xA,oK]at h;rcases h with h|h
  ·have:=bK h;subst this;rw[h1]at d;cases d;rfl
  ·split at h
   ·next z o a i v q=>
    obtain⟨g,l,c⟩:=aH.sH m _ q (by simp);rw[h1]at l;cases l;simp only[Nd.den]at c;split at c
    ·next s k j x r t A=>
     split at c
     ·split at c
      ·split at c
       ·obtain⟨y,_,e⟩:=bC.1 c;cases e;rw[Iq];exact zY f h r d
       ·cases c
      ·cases c
     ·cases c
    ·cases c
   ·next a b q=>
    obtain⟨g,l,c⟩:=aH.sH m _ q (by simp);rw[h1]at l;cases l;simp only[Nd.den]at c;split at c
    ·next s B r t=>
     split at c
     ·next u=>cases c;rw[u];exact zY f h r d
     ·cases c
    ·cases c
   ·cases h
def aDr:∀(f:Nat){m n:Nat}{g:GV}{k:Q1},xA f m n=true->aH.val m=some g->aH.val n=some (.l k)->∃xs,g=.l xs
 |0,m,n,g,k,h,h1,d=>by have:=bK h;subst this;rw[h1]at d;cases d;exact⟨_,rfl⟩
 |f+1,m,n,g,k,h,h1,d=>by
  simp only[xA,oK]at h;rcases h with h|h
  ·have:=bK h;subst this;rw[h1]at d;cases d;exact⟨_,rfl⟩
  ·split at h
   ·next z o a i q l=>
    obtain⟨p,j,c⟩:=aH.sH m _ l (by simp);rw[h1]at j;cases j;simp only[Nd.den]at c;split at c
    ·split at c
     ·split at c
      ·split at c
       ·obtain⟨y,_,e⟩:=bC.1 c;exact⟨_,e.symm⟩
       ·cases c
      ·cases c
     ·cases c
    ·cases c
   ·next a b l=>
    obtain⟨p,j,c⟩:=aH.sH m _ l (by simp);rw[h1]at j;cases j;simp only[Nd.den]at c;split at c
    ·split at c
     ·cases c;exact⟨_,rfl⟩
     ·cases c
    ·cases c
   ·cases h
def Gs{agg:Bool}{size:Nat}(h1:agg=false->size=1):∀(n:Nat){cs:Q3}{f:Q2}{vs:Q6},elemsOf agg size n cs=some f->aC F cs vs->cs.length=n*size->
 ∃gs,valsOf aH.val f=some gs/\gs.length=n/\aC F (bQ gs) vs/\cs.all AV.oO=true/\∀x∈gs,x.cells.length=size/\x.cells.all GV.scalar=true
 |0,cs,f,vs,h,e,k=>by simp only[elemsOf,aY]at h;subst h;have:cs=[]:=jH (by simpa using k);subst this;exact⟨[],rfl,rfl,by simpa[bQ,dX]using e,rfl,by simp⟩
 |n+1,cs,f,vs,h,e,k=>by
  simp only[elemsOf]at h;rw[tH,Iz]at k;split at h
  ·next a r b D=>
   cases h;obtain⟨gs,u,v,y,z,A⟩:=Gs h1 n D (e.drop size) (by simp;omega);have o:cs=cs.take size++cs.drop size:=(Iu _ _).symm;have p:vs=vs.take size++vs.drop size:=(Iu _ _).symm;cases agg with
   |true=>
    simp only[if_true]at b;have i:VR F (.agg (cs.take size)) (.agg ⟨vs.take size⟩):=by simp only[VR];exact⟨_,rfl,e.take size⟩
    obtain⟨l,m,q,j,s,E,B⟩:=LZ b i;cases q;refine⟨.g m::gs,by simp only[valsOf,s,u],by simp[v],?_,?_,?_⟩
    ·have:bQ (.g m::gs)=dX m++bQ gs:=by unfold bQ;rw[kE,Jr];rfl
     rw[this,p];refine aC.append ?_ y;simp only[GR]at B;obtain⟨L,G,H⟩:=B;cases G;exact(qj _ _).1 H
    ·rw[o,ad3,aK];refine⟨?_,z⟩;unfold FY at b;simp only at b;split at b
     ·next f t=>exact abq t
     ·cases b
    ·intro x d;rcases bH.1 d with rfl|d
     ·exact⟨by show m.length=size;rw[j,lN];omega,E⟩
     ·exact A x d
   |false=>
    have:=h1 rfl;subst this;simp only[iw,if_false]at b;cases cs with
    |nil=>simp at k
    |cons c cs=>
     simp only[Yw,Aq]at b;simp only[aC]at e;obtain⟨x,M,rfl,d,I⟩:=e;obtain⟨g,q,j,s⟩:=ng b d;refine⟨g::gs,by simp only[valsOf,q,u],by simp[v],?_,?_,?_⟩
     ·have:bQ (g::gs)=dX g.cells++bQ gs:=by unfold bQ;rw[kE,Jr]
      rw[this,GV.KI j];simp only[dX,bg,aX];exact aC.cons ((l9 _ _).1 s) (by simpa using y)
     ·simp only[rH,aK];exact⟨by cases c<;>simp[jg]at b<;>rfl,by simpa using z⟩
     ·intro x d;rcases bH.1 d with rfl|d
      ·rw[GV.KI j];exact⟨rfl,by simp[j]⟩
      ·exact A x d
  ·cases h
def awY(h:SR P F J w){e:TypeId}{x:AV}{b size:Nat}{u:Value}{O e':TypeId}{xs:Q1}(d:listOf P J e x=some b)(i:VR F x u)(ht:P.underlying O=some (.slice e'))(Z:sizeT P e=some size)(v:aH.val b=some (.l xs))(hs:xs.all (GV.fP size)=true):
 ∃y,Src P size O u xs.length y w/\aC F (bQ xs) y:=by
 have A:GX P O=true:=by unfold GX;rw[ht]
 have B:∀z∈xs,z.cells.length=size/\z.cells.all GV.scalar=true:=by intro z D;rw[List.all_eq_true]at hs;have:=hs z D;unfold GV.fP at this;rw[aK]at this;exact⟨Nat.eq_of_beq_eq_true this.1,this.2⟩
 have k:(bQ xs).all AV.oO=true:=by unfold bQ;refine aaq ?_;rw[List.all_eq_true];intro g s;obtain⟨z,D,Q⟩:=YB.1 s;exact List.all_eq_true.1 (B z D).2 g Q
 unfold listOf at d;split at d
 ·next n=>
  cases d;simp only[VR]at i;obtain⟨g,h1,R,h3⟩:=i;rw[v]at h1;cases h1;have f:Aa J size (.ro (dX xs))=some (xs.length,bQ xs):=by simp only[Aa];rw[aj,nG,aap];rfl;rw[List.all_eq_true];intro a S;rw[yc]at S;obtain⟨z,D,rfl⟩:=rM.1 S;rw[Nh,nG,(B z D).1];simp
  exact src_ok h A f ((l9 (.l xs) u).1 h3) k
 ·obtain⟨g,h1,R⟩:=gU d;rw[v]at h1;cases h1;simp only[Nd.den,valsOf,gZ,aY,GV.l.injEq]at R;subst R;exact src_ok h A (size:=size) (n:=0) (l:=[]) rfl i rfl
 ·next id n=>
  split at d
  ·next m et _ s=>
   split at d
   ·next t=>
    cases d;rw[aK]at t;simp only[VR]at i;obtain⟨y,h1,i⟩:=i;have o:=zY 100 t.2 v h1;rcases i with⟨q,E,j,rfl⟩|⟨_,rfl,rfl⟩
    ·obtain⟨ab,G,T,k3,k4,k5,k6,_,hS⟩:=OH h s E;rw[v]at G;cases G;have e:=bK t.1;subst e;rw[Z]at k5;cases k5;have f:Aa (lK J id xs e) q.es (.sl id 0 xs.length none)=some (xs.length,bQ xs):=by
      simp only[Aa,Fz];have:takeN (bQ xs) 0 (xs.length*q.es)=some (bQ xs):=by
       have d:(bQ xs).length=xs.length*q.es:=by rw[bQ,nG,Ql T]
       unfold takeN;rw[dN,lG (by omega),aj d]
      rw[this];rfl
     rw[<-o]at j⊢;exact src_ok hS A f (by simp only[VR];exact⟨q,E,by simpa using j,by simp⟩) k
    ·have:xs=[]:=jH (by simpa using o);subst this;exact src_ok h A (a:=.gK) (size:=size) (n:=0) (l:=[]) rfl (by simp only[VR]) rfl
   ·cases d
  ·cases d
 ·next id V len W=>
  split at d
  ·next c et wo ac X Y s H S=>
   rw[Z]at H;cases H;split at d
   ·next t=>
    rw[aK,oK,aK]at t;split at d
    ·next cs r=>
     split at d
     ·next ns I=>
      have p:Y=false->size=1:=by
       intro e;subst e;rcases t.2 with h1|h1
       ·simp at h1
       ·exact bK h1
      obtain⟨g,g1,g2⟩:=gU d;rw[v]at g1;cases g1;simp only[VR]at i;obtain⟨q,E,j,rfl⟩:=i;obtain⟨q',L,ws,aa,fr,hb,rr⟩:=h.obj _ _ s rfl;rw[E]at L;cases L;have M:=(uo r).2.1;obtain⟨gs,G,T,k3,k4,_⟩:=Gs (F:=F) p len I (rr.Ac r) M;simp only[Nd.den,G,gZ,aY,GV.l.injEq]at g2;subst g2;obtain⟨y,j1,j2⟩:=src_ok h A (size:=size) (n:=len) (l:=cs) (a:=.sl id V len W) (by simp only[Aa,s,r,gZ]) (by simp only[VR];exact⟨q,E,j,rfl⟩) k4;obtain⟨ad,N,ae,V3,_⟩:=Gs (F:=F) p len I j2 M;rw[G]at N;cases N;rw[T];exact⟨y,j1,V3⟩
     ·cases d
    ·cases d
   ·cases d
  ·cases d
 ·cases d
def afj(s:Q0):bQ (dh s)=xX s:=by
 unfold bQ dh xX;induction s with
 |nil=>rfl
 |cons c s a=>simp only[iP,kE,GV.cells,bg,aX,dX,lH,a]
