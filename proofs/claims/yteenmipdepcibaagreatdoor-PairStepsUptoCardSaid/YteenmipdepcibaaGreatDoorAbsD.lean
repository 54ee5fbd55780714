/- Values that are named by nodes: numbers, texts, truth values, parts of what nobody changes. -/
import Derived.Test.YteenmipdepcibaaGreatDoorAbsC
import Derived.Laws.StructEq
set_option linter.unusedSimpArgs false
set_option linter.unusedSectionVars false
set_option linter.unusedVariables false
namespace Go.aN
noncomputable section
variable[aH]
variable{P:Program}{F:Env}{J J':aA}{w:World}
mutual
def kC:GV->AV
 |.b x=>.b x
 |.i k n=>.i k n
 |.s x=>.s x
 |.g cs=>.agg (dH cs)
 |.l xs=>.ro (dH xs)
def dH:Q1->List AV
 |[]=>[]
 |a::l=>kC a::dH l
end
theorem vZ:∀l:Q1,dH l=l.map kC
 |[]=>rfl
 |a::l=>by simp[dH,vZ l]
theorem lS(l:Q1):(dH l).length=l.length:=by rw[vZ];simp
theorem OB(l:Q1)(k:Nat):(dH l)[k]? =(l[k]?).map kC:=by rw[vZ];simp
mutual
theorem kR:∀(g:GV)(v:Value),GR F.ro g v↔VR F (kC g) v
 |.b _,_=>by simp only[GR,VR,kC]
 |.i _ _,_=>by simp only[GR,VR,kC]
 |.s _,_=>by simp only[GR,VR,kC]
 |.g cs,v=>by
  simp only[GR,VR,kC];constructor
  ·rintro⟨vs,e,h⟩;exact⟨vs,e,(ou cs vs).1 h⟩
  ·rintro⟨vs,e,h⟩;exact⟨vs,e,(ou cs vs).2 h⟩
 |.l xs,v=>by
  simp only[GR,VR,kC,lS];have hn:dH xs=[]↔xs=[]:=by cases xs<;>simp[dH]
  rw[hn];constructor
  ·rintro(h|⟨bl,off,c,ys,sz,e,hc,h,h1,h2⟩)
   ·exact .inl h
   ·exact .inr ⟨bl,off,c,ys,sz,e,hc,(ou xs ys).1 h,h1,λhne=>h2 (λe=>hne (hn.2 e))⟩
  ·rintro(h|⟨bl,off,c,ys,sz,e,hc,h,h1,h2⟩)
   ·exact .inl h
   ·exact .inr ⟨bl,off,c,ys,sz,e,hc,(ou xs ys).2 h,h1,λhne=>h2 (λe=>hne (hn.1 e))⟩
theorem ou:∀(l:Q1)(vs:Q6),aO F.ro l vs↔aC F (dH l) vs
 |[],_=>by simp only[aO,aC,dH]
 |a::l,vs=>by
  simp only[aO,aC,dH];constructor
  ·rintro⟨x,xs,e,h1,h2⟩;exact⟨x,xs,e,(kR a x).1 h1,(ou l xs).1 h2⟩
  ·rintro⟨x,xs,e,h1,h2⟩;exact⟨x,xs,e,(kR a x).2 h1,(ou l xs).2 h2⟩
end
theorem KO(g:GV):(kC g).cells=dH g.cells:=by cases g<;>simp[kC,dH,AV.cells,GV.cells]
theorem YE:∀l:Q1,(dH l).flatMap AV.cells=dH (l.flatMap GV.cells)
 |[]=>rfl
 |a::l=>by simp only[dH,jC,YE l,KO];rw[vZ,vZ,vZ,lX]
theorem GR.cells{g:GV}{v:Value}(h:GR F.ro g v):aC F (dH g.cells) v.cells.toList:=by rw[<-KO];exact yX ((kR g v).1 h)
theorem GR.XI{g:GV}{v:Value}(h:GR F.ro g v):g.cells.length=v.cells.size:=by have:=h.cells.length;rw[lS]at this;simpa using this
theorem GV.Jd{g:GV}(h:g.scalar=true):g.cells=[g]:=by cases g<;>first|rfl|(cases h)
theorem ark{g:GV}(h:g.scalar=true):(kC g).nH=true:=by cases g<;>first|rfl|(cases h)
theorem YF:∀{l:Q1},l.all GV.scalar=true->(dH l).all AV.nH=true
 |[],_=>rfl
 |a::l,h=>by simp only[qK,aK]at h;simp only[dH,qK,aK];exact⟨ark h.1,YF h.2⟩
theorem aO.length{ro:Qf}:∀{l:Q1}{vs:Q6},aO ro l vs->l.length=vs.length
 |[],vs,h=>by simp only[aO]at h;subst h;rfl
 |a::l,vs,h=>by simp only[aO]at h;obtain⟨x,xs,rfl,_,h2⟩:=h;simp[aO.length h2]
theorem aO.at{ro:Qf}:∀{l:Q1}{vs:Q6},aO ro l vs->∀{k:Nat}{a:GV},l[k]? =some a->∃x,vs[k]? =some x/\GR ro a x
 |[],vs,h,k,a,hk=>by simp at hk
 |b::l,vs,h,k,a,hk=>by
  simp only[aO]at h;obtain⟨x,xs,rfl,h1,h2⟩:=h;cases k with
  |zero=>simp at hk;subst hk;exact⟨x,by simp,h1⟩
  |succ k=>obtain⟨y,hy,hv⟩:=aO.at h2 (by simpa using hk);exact⟨y,by simpa using hy,hv⟩
theorem gB{x:Nd}{n:Nat}(h:fF x=some n):∃g,aH.val n=some g/\x.den aH.I aH.val=some g:=by obtain⟨h1,h2⟩:=aqb h;exact aH.qE n x h1 h2
theorem alT{m m':Nat}(h:X5 m m'=true):(∃k a b,aH.val m=some (.i k a)/\aH.val m'=some (.i k b)/\a≠b)\/(∃a b,aH.val m=some (.s a)/\aH.val m'=some (.s b)/\a≠b):=by
 unfold X5 at h;split at h
 ·next k a k' b h1 h2=>
  rw[aK]at h;have:=Uf h.1;subst this;obtain⟨g,e1,e2⟩:=aH.qE _ _ h1 (by simp);obtain⟨g',e3,e4⟩:=aH.qE _ _ h2 (by simp);simp only[Nd.den,aW]at e2 e4;subst e2;subst e4;refine .inl ⟨k,a,b,e1,e3,λe=>?_⟩;subst e;rw[(afU (a:=a) (b:=a)).2 rfl]at h;simp at h
 ·next a b h1 h2=>
  obtain⟨g,e1,e2⟩:=aH.qE _ _ h1 (by simp);obtain⟨g',e3,e4⟩:=aH.qE _ _ h2 (by simp);simp only[Nd.den,aW]at e2 e4;subst e2;subst e4;refine .inr ⟨a,b,e1,e3,λe=>?_⟩;subst e;rw[(adk (l:=a) (m:=a)).2 rfl]at h;simp at h
 ·cases h
theorem ZH{n m:Nat}:∀{l:Wd},(∀p∈l,aH.val p.1=some (.b p.2))->Fp n m l=true->(∃k a b,aH.val n=some (.i k b)/\aH.val m=some (.i k a)/\a≠b)\/(∃a b,aH.val n=some (.s b)/\aH.val m=some (.s a)/\a≠b)
 |[],_,h=>by simp[Fp]at h
 |p::l,hl,h=>by
  simp only[Fp,nO]at h;rcases h with h|h
  ·cases hp:p.2 with
   |false=>rw[hp]at h;simp at h
   |true=>
    rw[hp]at h;simp only[cond_true]at h;split at h
    ·next n' m' hn=>
     rw[aK]at h;have e:=bD h.1;subst e;obtain⟨g,e1,e2⟩:=aH.qE _ _ hn (by simp);have e3:=hl p (by simp);rw[hp,e1]at e3;cases e3;simp only[Nd.den]at e2;rcases alT h.2 with⟨k,a,b,q1,q2,q3⟩|⟨a,b,q1,q2,q3⟩
     ·rw[q2]at e2;split at e2
      ·next x y hx hy=>
       cases hy;cases x<;>simp only[gZ,bQ,reduceCtorEq]at e2
       split at e2
       ·next e4=>
        subst e4;simp only[aW,GV.b.injEq,beq_iff_eq]at e2;subst e2;exact .inl ⟨_,a,_,hx,q1,q3⟩
       ·cases e2
      ·cases e2
     ·rw[q2]at e2;split at e2
      ·next x y hx hy=>
       cases hy;cases x<;>simp only[gZ,wM,reduceCtorEq]at e2
       simp only[aW,GV.b.injEq,beq_iff_eq]at e2;subst e2;exact .inr ⟨a,_,hx,q1,q3⟩
      ·cases e2
    ·cases h
  ·exact ZH (λq hq=>hl q (by simp[hq])) h
theorem adO{c n m:Nat}{b:Bool}:∀{l:Wd},(∀p∈l,aH.val p.1=some (.b p.2))->Kv c n m l=some b->∃op x y,uU op=c/\aH.val n=some x/\aH.val m=some y/\gZ op x y=some (.b b)
 |[],_,h=>by simp[Kv]at h
 |p::l,hl,h=>by
  have ih:=λh=>adO (c:=c) (n:=n) (m:=m) (b:=b) (l:=l) (λq hq=>hl q (by simp[hq])) h;simp only[Kv]at h;split at h
  ·next op n' m' hn=>
   cases hc:Nat.beq n n'&&Nat.beq m m'&&Nat.beq (uU op) c with
   |false=>rw[hc]at h;exact ih h
   |true=>
    rw[hc]at h;simp only[cond_true,aW]at h;rw[aK,aK]at hc;have e1:=bD hc.1.1;have e2:=bD hc.1.2;have e3:=bD hc.2;subst e1;subst e2;obtain⟨g,g1,g2⟩:=aH.qE _ _ hn (by simp);have g3:=hl p (by simp);rw[g1,h]at g3;cases g3;simp only[Nd.den]at g2;split at g2
    ·next x y hx hy=>exact⟨op,x,y,e3,hx,hy,g2⟩
    ·cases g2
  ·exact ih h
theorem alR{op op':BinOp}{x y g:GV}{r:Bool}(h:EH op=some op')(h1:gZ op' x y=some (.b r))(h2:gZ op x y=some g):g=.b (!r):=by
 cases x with
 |i k a=>
  cases y with
  |i k' b=>
   by_cases e:k=k'
   ·subst e;unfold EH at h;split at h<;>cases h<;>simp only[gZ,bQ,if_true,aW,GV.b.injEq]at h1 h2<;>rw[<-h1,<-h2]<;>congr 1<;>rw[wU]<;>simp<;>omega
   ·unfold EH at h;split at h<;>cases h<;>simp only[gZ,ah e]at h1<;>cases h1
  |_=>unfold EH at h;split at h<;>cases h<;>simp[gZ]at h1
 |s a=>
  cases y with
  |s b=>unfold EH at h;split at h<;>cases h<;>simp only[gZ,wM,aW,GV.b.injEq]at h1 h2<;>rw[<-h1,<-h2]<;>simp
  |_=>unfold EH at h;split at h<;>cases h<;>simp[gZ]at h1
 |_=>unfold EH at h;split at h<;>cases h<;>simp[gZ]at h1
theorem aaW{op:BinOp}{n m:Nat}{b:Bool}{g:GV}(h:PW op n m=some b)(hd:(Nd.bin op n m).den aH.I aH.val=some g):g=.b b:=by
 unfold PW at h;split at h
 ·next op' ho=>
  obtain⟨r,h1,rfl⟩:=aZ.1 h;obtain⟨op2,x,y,e,hx,hy,h2⟩:=adO (λp hp=>aH.Ak p.1 p.2 hp) h1;have:=ahd.1 e;subst this;simp only[Nd.den,hx,hy]at hd;exact alR ho h2 hd
 ·cases h
theorem awS{x:Nd}{b:Bool}{g:GV}(h:aaX x=some b)(hd:x.den aH.I aH.val=some g):g=.b b:=by
 unfold aaX at h;split at h
 ·next n m=>
  cases hk:Fp n m gG.dec with
  |false=>rw[hk]at h;simp only[cond_false]at h;exact aaW h hd
  |true=>
   rw[hk]at h;cases h;rcases ZH (λp hp=>aH.Ak p.1 p.2 hp) hk with⟨k,a,b,q1,q2,q3⟩|⟨a,b,q1,q2,q3⟩
   ·simp only[Nd.den,q1,q2,gZ,bQ,if_true,aW]at hd;rw[<-hd];simp[Ne.symm q3]
   ·simp only[Nd.den,q1,q2,gZ,wM,aW]at hd;rw[<-hd];simp[Ne.symm q3]
 ·next n m=>
  cases hk:Fp n m gG.dec with
  |false=>rw[hk]at h;simp only[cond_false]at h;exact aaW h hd
  |true=>
   rw[hk]at h;cases h;rcases ZH (λp hp=>aH.Ak p.1 p.2 hp) hk with⟨k,a,b,q1,q2,q3⟩|⟨a,b,q1,q2,q3⟩
   ·simp only[Nd.den,q1,q2,gZ,bQ,if_true,aW]at hd;rw[<-hd];simp[Ne.symm q3]
   ·simp only[Nd.den,q1,q2,gZ,wM,aW]at hd;rw[<-hd];simp[Ne.symm q3]
 ·exact aaW h hd
 ·cases h
theorem mF{x:Nd}{r:AV}(h:jV x=some r):∃n g,aH.val n=some g/\x.den aH.I aH.val=some g/\∀v,g.scalar=true->GR F.ro g v->VR F r v:=by
 unfold jV at h;split at h
 ·next n hn=>
  obtain⟨g,h1,h2⟩:=gB hn;refine⟨n,g,h1,h2,λv hs hv=>?_⟩;split at h
  ·next b hb=>
   cases h;have:=aH.Ak n b (Ol hb);rw[h1]at this;cases this;simp only[GR]at hv;simp only[VR];exact hv
  ·split at h
   ·next b hb=>
    cases h;have:=awS hb h2;subst this;simp only[GR]at hv;simp only[VR];exact hv
   ·cases h;simp only[VR];exact⟨g,h1,hs,hv⟩
 ·cases h
theorem G5{a:Q4}{r:AV}(h:dB a=some r):∃v,a=some v/\∀(F:Env)(x:Value),VR F v x->VR F r x:=by
 unfold dB at h;split at h
 ·next n=>
  split at h
  ·next b hb=>
   cases h;refine⟨_,rfl,λF x hx=>?_⟩;have hd:=aH.Ak n b (Ol hb);simp only[VR]at hx;obtain⟨g,h1,_,h2⟩:=hx;rw[hd]at h1;cases h1;simp only[GR]at h2;subst h2;simp only[VR]
  ·cases h
 ·exact⟨r,h,λ_ _ h=>h⟩
theorem lF{a:AV}{n:Nat}{v:Value}(h:iQ a=some n)(hv:VR F a v):∃g,aH.val n=some g/\g.scalar=true/\GR F.ro g v:=by
 cases a<;>simp only[iQ,reduceCtorEq,aW]at h
 case nd m=>subst h;simpa only[VR]using hv
 case i k m=>obtain⟨g,h1,h2⟩:=gB h;simp only[Nd.den,aW]at h2;subst h2;exact⟨_,h1,rfl,by simpa only[VR,GR]using hv⟩
 case b x=>obtain⟨g,h1,h2⟩:=gB h;simp only[Nd.den,aW]at h2;subst h2;exact⟨_,h1,rfl,by simpa only[VR,GR]using hv⟩
 case s x=>obtain⟨g,h1,h2⟩:=gB h;simp only[Nd.den,aW]at h2;subst h2;exact⟨_,h1,rfl,by simpa only[VR,GR]using hv⟩
 case fV=>obtain⟨g,h1,h2⟩:=gB h;simp only[Nd.den,valsOf,gI,aW]at h2;subst h2;exact⟨_,h1,rfl,by simp only[VR]at hv;simp only[GR];exact .inl ⟨trivial,_,hv⟩⟩
theorem UN:∀{l:Q3}{ns:Q2}{vs:Q6},nodesOf l=some ns->aC F l vs->∃gs,valsOf aH.val ns=some gs/\gs.all GV.scalar=true/\aO F.ro gs vs
 |[],ns,vs,h,hv=>by simp only[nodesOf,aW]at h;subst h;simp only[aC]at hv;subst hv;exact⟨[],rfl,rfl,by simp[aO]⟩
 |a::l,ns,vs,h,hv=>by
  simp only[nodesOf]at h;split at h
  ·next n r hn hr=>
   cases h;simp only[aC]at hv;obtain⟨x,xs,rfl,h1,h2⟩:=hv;obtain⟨g,g1,g2,g3⟩:=lF hn h1;obtain⟨gs,k1,k2,k3⟩:=UN hr h2;exact⟨g::gs,by simp only[valsOf,g1,k1],by simp[g2,k2],by simp only[aO];exact⟨x,xs,rfl,g3,k3⟩⟩
  ·cases h
theorem J3{a:AV}{n:Nat}{v:Value}(h:Ej a=some n)(hv:VR F a v):∃l gs,a=.agg l/\gs.length=l.length/\aH.val n=some (.g gs)/\gs.all GV.scalar=true/\GR F.ro (.g gs) v:=by
 unfold Ej at h;split at h
 ·next l=>
  split at h
  ·next ns hns=>
   simp only[VR]at hv;obtain⟨vs,rfl,hvs⟩:=hv;obtain⟨gs,g1,g2,g3⟩:=UN hns hvs;obtain⟨g,h1,h2⟩:=gB h;simp only[Nd.den,g1,g2,if_true,aW]at h2;subst h2;exact⟨l,gs,rfl,by rw[g3.length,hvs.length],h1,g2,by simp only[GR];exact⟨vs,rfl,g3⟩⟩
  ·cases h
 ·cases h
theorem axj{op:BinOp}{t:TypeId}{x y:Operand}{k k':IntKind}{a b:Int}{w:World}:(eqGuard op t x y (.int k a) (.int k' b)).run P w=.ok () w:=by unfold eqGuard;cases op<;>rfl
theorem axk{op:BinOp}{t:TypeId}{x y:Operand}{a b:ByteArray}{w:World}:(eqGuard op t x y (.string a) (.string b)).run P w=.ok () w:=by unfold eqGuard;cases op<;>rfl
theorem asq{op:BinOp}{t:TypeId}{k:IntKind}{a b:Int}{g:GV}(h1:op≠.shl)(h2:op≠.shr)(h:bQ op k a b=some g):g.scalar=true/\∃z,(binOp op t (.int k a) (.int k b)).run P w=.ok z w/\GR F.ro g z:=by
 cases op<;>simp only[bQ,reduceCtorEq]at h
 all_goals first|(exact absurd rfl h1)|(exact absurd rfl h2)|(cases h;done)|skip
 all_goals first
  |(cases h;refine⟨rfl,?_⟩;simp only[binOp,ne_eq,not_true_eq_false,if_false,Op.intArith,Op.intCmp,Op.intBits];exact⟨_,rfl,by simp only[GR]⟩)
  |(split at h;cases h;cases h;next hb=>refine⟨rfl,?_⟩;simp only[binOp,ne_eq,not_true_eq_false,if_false,Op.intDiv,hb];exact⟨_,rfl,by simp only[GR]⟩)
theorem aiE{op:BinOp}{t:TypeId}{k k':IntKind}{a b:Int}{g:GV}(ho:op=.shl\/op=.shr)(h:jB op k a b=some g):g.scalar=true/\∃z,(binOp op t (.int k a) (.int k' b)).run P w=.ok z w/\GR F.ro g z:=by
 unfold jB at h;split at h
 ·cases h
 ·next hb=>
  rcases ho with rfl|rfl
  ·cases h;refine⟨rfl,?_⟩;simp only[binOp,Op.shift,ah hb];exact⟨_,rfl,by simp only[GR]⟩
  ·cases h;refine⟨rfl,?_⟩;simp only[binOp,Op.shift,ah hb];exact⟨_,rfl,by simp only[GR]⟩
theorem azR{op:BinOp}{t:TypeId}{a b:Q0}{g:GV}(h:wM op a b=some g):g.scalar=true/\∃z,(binOp op t (.string ⟨⟨a⟩⟩) (.string ⟨⟨b⟩⟩)).run P w=.ok z w/\GR F.ro g z:=by
 cases op<;>simp only[wM,reduceCtorEq]at h
 all_goals first|(cases h;done)|skip
 all_goals first|(cases h;refine⟨rfl,?_⟩;simp only[binOp,Op.stringOp,toList_mk];exact⟨_,rfl,by simp only[GR]⟩)|skip
 split at h
 ·next hb=>
  cases h;have:¬(((⟨⟨a⟩⟩:ByteArray).size+(⟨⟨b⟩⟩:ByteArray).size:Nat):Int)>IntKind.i64.max:=by rw[strSize,strSize];omega
  refine⟨rfl,?_⟩;simp only[binOp,Op.stringOp,ah this,acV];exact⟨_,rfl,by simp only[GR]⟩
 ·cases h
theorem akH{op:BinOp}{t:TypeId}{x y:Operand}{g1 g2 g:GV}{u u':Value}(h:gZ op g1 g2=some g)(h1:GR F.ro g1 u)(h2:GR F.ro g2 u'):
 g.scalar=true/\∃z,(do eqGuard op t x y u u';binOp op t u u':Sem Value).run P w=.ok z w/\GR F.ro g z:=by
 unfold gZ at h;split at h
 ·next k a k' b=>
  simp only[GR]at h1 h2;subst h1;subst h2;simp only[aS,axj,aQ];split at h
  ·exact aiE (.inl rfl) h
  ·exact aiE (.inr rfl) h
  ·next hn1 hn2=>
   split at h
   ·next hk=>subst hk;exact asq hn1 hn2 h
   ·cases h
 ·next a b=>
  simp only[GR]at h1 h2;subst h1;subst h2;simp only[aS,axk,aQ];exact azR h
 ·cases h
theorem aeB{t:TypeId}(hu:P.underlying t=some .bool)(a b:Bool):(Op.equal t (.bool a) (.bool b)).run P w=.ok (a==b) w:=by
 have H:∀n,(Op.equalIn (n+1) t (.bool a) (.bool b)).run P w=.ok (a==b) w:=λn=>by simp only[Op.equalIn,aS,aX hu,aQ,bF]
 exact H 9999
theorem akF{op:BinOp}{t:TypeId}{x y:Operand}{g1 g2 g:GV}{u u':Value}(hu:P.underlying t=some .bool)(h:Rn op g1 g2=some g)(h1:GR F.ro g1 u)(h2:GR F.ro g2 u'):
 g.scalar=true/\∃z,(do eqGuard op t x y u u';binOp op t u u':Sem Value).run P w=.ok z w/\GR F.ro g z:=by
 unfold Rn at h;split at h
 ·next a b=>
  simp only[GR]at h1 h2;subst h1;subst h2;split at h
  ·cases h;exact⟨rfl,_,qQ (aeB hu a b) rfl rfl,by simp only[GR]⟩
  ·cases h;exact⟨rfl,_,qR (aeB hu a b) rfl rfl,by simp only[GR]⟩
  ·cases h
 ·cases h
theorem aeC{w:World}(d:Nat):∀(fs:List Field)(k:Nat)(ks:Q2)(xs ys:Q6)(gs hs:Q1)(r:Bool),LW P fs k=some ks->aO F.ro gs (xs.drop k)->aO F.ro hs (ys.drop k)->lQ ks gs hs=some r->
 (Op.eqFields (d+1) ⟨xs⟩ ⟨ys⟩ fs).run P w=.ok r w
 |[],k,ks,xs,ys,gs,hs,r,hp,_,_,he=>by
  simp only[LW,aW]at hp;subst hp;cases gs with
  |cons g gs=>simp[lQ]at he
  |nil=>
   cases hs with
   |cons g gs=>simp[lQ]at he
   |nil=>simp only[lQ,aW]at he;subst he;simp[Op.eqFields]
 |f::fs,k,ks,xs,ys,gs,hs,r,hp,hx,hy,he=>by
  simp only[LW]at hp;split at hp
  ·next hc=>
   rw[aK,yJ]at hc;obtain⟨hn,ho⟩:=hc;have ho':=bD ho;split at hp
   ·next a ks' ht hp'=>
    cases hp;cases gs with
    |nil=>simp[lQ]at he
    |cons g gs=>
    cases hs with
    |nil=>simp[lQ]at he
    |cons g' hs=>
    simp only[aO]at hx hy;obtain⟨u,us,hxe,hu,hus⟩:=hx;obtain⟨u',us',hye,hu',ar8⟩:=hy;have hxk:xs[k]? =some u:=by rw[<-List.head?_drop,hxe];rfl
    have hyk:ys[k]? =some u':=by rw[<-List.head?_drop,hye];rfl
    have ar9:us=xs.drop (k+1):=by have:=uK (List.drop 1) hxe;simpa[sK]using this.symm
    have asa:us'=ys.drop (k+1):=by have:=uK (List.drop 1) hye;simpa[sK]using this.symm
    have hagg:nI P f.type=some false:=by unfold aaA at ht;unfold nI;split at ht<;>first|(next h=>rw[h])|(cases ht)
    have hpart:∀(zs:Q6) z,zs[k]? =some z->(part f.type ⟨zs⟩ f.offset).run P w=.ok z w:=by
     intro zs z hz;unfold part;simp only[aS,Jc hagg,aQ,iO,if_false];have:(⟨zs⟩:QQ)[f.offset]? =some z:=by rw[ho'];simpa using hz
     simp only[this,bF]
    have hne:(f.name ≠ "_"):=by intro e;rw[e]at hn;simp at hn
    have fin:∀b r',(Op.equalIn (d+1) f.type u u').run P w=.ok b w->lQ ks' gs hs=some r'->(Op.eqFields (d+1) ⟨xs⟩ ⟨ys⟩ (f::fs)).run P w=.ok (b&&r') w:=by
     intro b r' hb hr';have hrec:=aeC (w:=w) d fs (k+1) ks' xs ys gs hs r' hp' (by rw[<-ar9];exact hus) (by rw[<-asa];exact ar8) hr';simp only[Op.eqFields,aj hne,aS,hpart _ _ hxk,hpart _ _ hyk,aQ,hb];cases b with
     |true=>simpa using hrec
     |false=>simp
    unfold aaA at ht;split at ht
    ·next kk hk=>
     cases ht;cases g<;>cases g'<;>simp only[lQ,reduceCtorEq]at he
     split at he
     ·next hkk=>
      subst hkk;obtain⟨r',hr',rfl⟩:=aZ.1 he;simp only[GR]at hu hu';subst hu;subst hu';exact fin _ _ (run_equalIn_int w d _ _ _ _ _ hk) hr'
     ·cases he
    ·next hk=>
     cases ht;cases g<;>cases g'<;>simp only[lQ,reduceCtorEq]at he
     obtain⟨r',hr',rfl⟩:=aZ.1 he;simp only[GR]at hu hu';subst hu;subst hu';refine fin _ _ ?_ hr';rw[run_equalIn_string w d _ _ _ hk,toList_mk,toList_mk]
    ·next hk=>
     cases ht;cases g<;>cases g'<;>simp only[lQ,reduceCtorEq]at he
     obtain⟨r',hr',rfl⟩:=aZ.1 he;simp only[GR]at hu hu';subst hu;subst hu';exact fin _ _ (run_equalIn_bool' w d _ _ _ hk) hr'
    ·cases ht
   ·cases hp
  ·cases hp
theorem akG{op:BinOp}{t:TypeId}{x y:Operand}{fs:Array Field}{ks:Q2}{g1 g2 g:GV}{u u':Value}(hu:P.underlying t=some (.struct fs))(hst:P.stoodInHeld t=false)(heg:P.eqGuardType P.depth t=false)(hp:LW P fs.toList 0=some ks)
 (h:J7 op ks g1 g2=some g) (h1:GR F.ro g1 u) (h2:GR F.ro g2 u'):
 g.scalar=true/\∃z,(do eqGuard op t x y u u';binOp op t u u':Sem Value).run P w=.ok z w/\GR F.ro g z:=by
 unfold J7 at h;split at h
 ·next a b=>
  simp only[GR]at h1 h2;obtain⟨vs,rfl,h1⟩:=h1;obtain⟨us,rfl,h2⟩:=h2;have hfo:P.fieldsOf t=fs:=by unfold Program.fieldsOf;rw[hu]
  have hun:P.underlying t=some (.struct (P.fieldsOf t)):=by rw[hfo];exact hu
  have key:∀r,lQ ks a b=some r->(Op.equalIn 10000 t (.agg ⟨vs⟩) (.agg ⟨us⟩)).run P w=.ok r w:=by intro r hr;rw[run_equalIn_agg w 9999 t _ _ hun hst,hfo];exact aeC (F:=F) 9998 fs.toList 0 ks vs us a b r hp (by simpa using h1) (by simpa using h2) hr
  split at h
  ·obtain⟨r,hr,rfl⟩:=aZ.1 h;refine⟨rfl,.bool r,?_,by simp only[GR]⟩;simp only[aS,run_eqGuard_agg w .eql t x y _ _ heg,aQ,run_eql_struct,key r hr]
  ·obtain⟨r,hr,rfl⟩:=aZ.1 h;refine⟨rfl,.bool (!r),?_,by simp only[GR]⟩;simp only[aS,run_eqGuard_agg w .neq t x y _ _ heg,aQ,run_neq_struct,key r hr]
  ·cases h
 ·cases h
theorem azY{op:BinOp}{t:TypeId}{x y:Operand}{a b v:AV}{u u':Value}(hs:VH P op t a b=some v)(hx:VR F a u)(hy:VR F b u'):
 ∃z,(do eqGuard op t x y u u';binOp op t u u':Sem Value).run P w=.ok z w/\VR F v z:=by
 unfold VH at hs
 have two:∀{m n:Nat}{nd:Nd},jV nd=some v->(∀g,nd.den aH.I aH.val=some g->g.scalar=true/\∃z,(do eqGuard op t x y u u';binOp op t u u':Sem Value).run P w=.ok z w/\GR F.ro g z)->
  ∃z,(do eqGuard op t x y u u';binOp op t u u':Sem Value).run P w=.ok z w/\VR F v z:=by
  intro m n nd hm hd;obtain⟨_,g,_,h2,h3⟩:=mF (F:=F) hm;obtain⟨h4,z,h5,h6⟩:=hd g h2;exact⟨z,h5,h3 z h4 h6⟩
 have ac4:(match iQ a,iQ b with|some x,some y=>jV (.bin op x y)|_,_=>none)=some v->∃z,(do eqGuard op t x y u u';binOp op t u u':Sem Value).run P w=.ok z w/\VR F v z:=by
  intro hs;split at hs
  ·next m n hm hn=>
   obtain⟨g1,a1,a2,a3⟩:=lF hm hx;obtain⟨g2,b1,b2,b3⟩:=lF hn hy;refine two (m:=m) (n:=n) hs λg hg=>?_;simp only[Nd.den,a1,b1]at hg;exact akH hg a3 b3
  ·cases hs
 split at hs
 ·exact ac4 hs
 ·exact ac4 hs
 ·next hu=>
  split at hs
  ·next m n hm hn=>
   obtain⟨g1,a1,a2,a3⟩:=lF hm hx;obtain⟨g2,b1,b2,b3⟩:=lF hn hy;refine two (m:=m) (n:=n) hs λg hg=>?_;simp only[Nd.den,a1,b1]at hg;exact akF hu hg a3 b3
  ·cases hs
 ·next fs hu=>
  split at hs
  ·next hc=>
   rw[aK,yJ,yJ]at hc;split at hs
   ·next ks m n hks hm hn=>
    obtain⟨l1,g1,_,_,a1,a2,a3⟩:=J3 hm hx;obtain⟨l2,g2,_,_,b1,b2,b3⟩:=J3 hn hy;refine two (m:=m) (n:=n) hs λg hg=>?_;simp only[Nd.den,a1,b1]at hg;exact akG hu hc.1 hc.2 hks hg a3 b3
   ·cases hs
  ·cases hs
 ·next e hu=>
  have rx:∀{m off:Nat}{u:Value},VR F (.rx m off) u->∃ad,u=.pointer (some ad):=by intro m off u h;simp only[VR]at h;obtain⟨g,bl,base,cs,elem,fr,y,_,_,_,rfl,_⟩:=h;exact⟨_,rfl⟩
  have pv:∀{id m off:Nat}{u:Value},VR F (.pv id m off) u->∃ad,u=.pointer (some ad):=by intro id m off u h;simp only[VR]at h;obtain⟨q,k,i,_,_,rfl⟩:=h;exact⟨_,rfl⟩
  have np:∀{u:Value},VR F .jr u->u=.pointer none:=by intro u h;simpa only[VR]using h
  split at hs<;>cases hs
  ·obtain⟨ad,rfl⟩:=rx hx;have:=np hy;subst this;exact⟨_,qQ (EL hu _) rfl rfl,by simp only[VR]⟩
  ·obtain⟨ad,rfl⟩:=rx hy;have:=np hx;subst this;exact⟨_,qQ (EK hu _) rfl rfl,by simp only[VR]⟩
  ·obtain⟨ad,rfl⟩:=rx hx;have:=np hy;subst this;exact⟨_,qR (EL hu _) rfl rfl,by simp only[VR];rfl⟩
  ·obtain⟨ad,rfl⟩:=rx hy;have:=np hx;subst this;exact⟨_,qR (EK hu _) rfl rfl,by simp only[VR];rfl⟩
  ·obtain⟨ad,rfl⟩:=pv hx;have:=np hy;subst this;exact⟨_,qQ (EL hu _) rfl rfl,by simp only[VR]⟩
  ·obtain⟨ad,rfl⟩:=pv hy;have:=np hx;subst this;exact⟨_,qQ (EK hu _) rfl rfl,by simp only[VR]⟩
  ·obtain⟨ad,rfl⟩:=pv hx;have:=np hy;subst this;exact⟨_,qR (EL hu _) rfl rfl,by simp only[VR];rfl⟩
  ·obtain⟨ad,rfl⟩:=pv hy;have:=np hx;subst this;exact⟨_,qR (EK hu _) rfl rfl,by simp only[VR];rfl⟩
 ·cases hs
theorem aAA{op:UnOp}{g g':GV}{u:Value}(h:V8 op g=some g')(h1:GR F.ro g u):g'.scalar=true/\∃z,(Op.unary op u).run P w=.ok z w/\GR F.ro g' z:=by
 unfold V8 at h;split at h
 ·simp only[GR]at h1;subst h1;split at h
  ·cases h;exact⟨rfl,_,rfl,by simp only[GR]⟩
  ·cases h
 ·simp only[GR]at h1;subst h1;split at h
  ·cases h;exact⟨rfl,_,rfl,by simp only[GR]⟩
  ·simp only[bQ,aW]at h;subst h;exact⟨rfl,_,rfl,by simp only[GR]⟩
  ·cases h
 ·cases h
theorem aAa{op:UnOp}{a v:AV}{u:Value}(hs:MR op a=some v)(hx:VR F a u):∃z,(Op.unary op u).run P w=.ok z w/\VR F v z:=by
 unfold MR at hs;split at hs
 ·next n=>
  obtain⟨_,g,_,h2,h3⟩:=mF (F:=F) hs;simp only[VR]at hx;obtain⟨g0,a1,a2,a3⟩:=hx;simp only[Nd.den,a1]at h2;obtain⟨h4,z,h5,h6⟩:=aAA (P:=P) (w:=w) h2 a3;exact⟨z,h5,h3 z h4 h6⟩
 ·cases hs
theorem SR.swap(h:SR P F J w){id:Nat}{o o':bn}(hg:J.get id=some o)(ho:o'.own=o.own)(hl:Live P F w id o'):SR P F (J.put id o') w:=by
 have key:∀k u,(J.put id o').get k=some u->∃u',J.get k=some u'/\u.own=u'.own:=by
  intro k u hk;rw[aA.get_put]at hk;split at hk
  ·next e=>cases hk;subst e;exact⟨o,hg,ho⟩
  ·exact⟨u,hk,rfl⟩
 refine⟨h.mg,h.dom,λk u hk=>?_,h.jH,λk u k' u' q q' h1 h2 h3 hne h5 h6=>?_,h.iT,λk u q h1 h2 h3=>?_,h.tabs⟩
 ·rw[aA.get_put]at hk;split at hk
  ·next e=>cases hk;subst e;exact hl
  ·exact h.live k u hk
 ·obtain⟨v,a1,a2⟩:=key k u h1;obtain⟨v',b1,b2⟩:=key k' u' h3;exact h.sep k v k' v' q q' a1 (a2▸h2) b1 hne h5 h6
 ·obtain⟨v,a1,a2⟩:=key k u h1;exact h.kN k v q a1 (a2▸h2) h3
theorem St.left{F':Env}{τ:aA}{w':World}(h:St P F τ w F' J' w')(hl:τ.lock=J.lock)(hn:τ.next=J.next)(hk:∀k u,τ.get k=some u->u.own=true->∃u',J.get k=some u'/\u'.own=true):St P F J w F' J' w':=by
 refine⟨h.ext,h.rel,h.size,λbl hb hno=>h.keep bl hb λk u q a1 a2 a3 a4=>?_,λk u q a1 a2 a3 a4=>?_,h.os,h.tape,h.output,h.lock.trans hl,hn▸h.next,hn▸h.new,λb hb=>?_⟩
 ·obtain⟨v,b1,b2⟩:=hk k u a1 a2;exact hno k v q b1 b2 (hl▸a3) a4
 ·rcases h.own k u q a1 a2 (hl▸a3) a4 with h1|⟨k0,u0,q0,b1,b2,b3,b4,b5⟩
  ·exact .inl h1
  ·obtain⟨v,c1,c2⟩:=hk k0 u0 b1 b2;exact .inr ⟨k0,v,q0,c1,c2,hl▸b3,b4,b5⟩
 ·rcases h.qg b hb with h1|h1|⟨k0,u0,q0,b1,b2,b3,b4,b5⟩
  ·exact .inl h1
  ·exact .inr (.inl h1)
  ·obtain⟨v,c1,c2⟩:=hk k0 u0 b1 b2;exact .inr (.inr ⟨k0,v,q0,c1,c2,hl▸b3,b4,b5⟩)
theorem St.right{F':Env}{τ:aA}{w':World}(h:St P F J w F' J' w')(rel:SR P F' τ w')(hl:τ.lock=J'.lock)(hn:τ.next=J'.next)(hk:∀k u,τ.get k=some u->u.own=true->∃u',J'.get k=some u'/\u'.own=true):St P F J w F' τ w':=by refine⟨h.ext,rel,h.size,h.keep,λk u q a1 a2 a3 a4=>?_,h.os,h.tape,h.output,hl.trans h.lock,by rw[hn];exact h.next,by rw[hn];exact h.new,h.qg⟩;obtain⟨v,b1,b2⟩:=hk k u a1 a2;exact h.own k v q b1 b2 a3 a4
def bI(xs:Q1):Q3:=dH (xs.flatMap GV.cells)
theorem Ox{xs:Q1}{sz:Nat}(h:∀x∈xs,x.cells.length=sz):(xs.flatMap GV.cells).length=xs.length*sz:=by
 induction xs with
 |nil=>simp
 |cons x xs ih=>rw[jC,fU,h x (by simp),ih (λy hy=>h y (by simp[hy])),gQ,qM];omega
theorem aqk{xs:Q1}{sz:Nat}(h:∀x∈xs,x.cells.length=sz)(i:Nat):(xs.flatMap GV.cells).drop (i*sz)=(xs.drop i).flatMap GV.cells:=by
 induction xs generalizing i with
 |nil=>simp
 |cons x xs ih=>
  cases i with
  |zero=>simp
  |succ i=>have hx:=h x (by simp);rw[jC,ace,fZ (by rw[hx,qM];omega),hx,aV,WE,<-ih (λy hy=>h y (by simp[hy]))];congr 1;rw[qM];omega
theorem aqj{xs:Q1}{sz i:Nat}{x:GV}(h:∀x∈xs,x.cells.length=sz)(hi:xs[i]? =some x):((xs.flatMap GV.cells).drop (i*sz)).take sz=x.cells:=by
 rw[aqk h];have:xs.drop i=x::xs.drop (i+1):=by obtain⟨hlt,rfl⟩:=eU.1 hi;exact gY hlt
 have hl:=h x (rC hi);rw[this,jC,QA (by omega),jZ (by omega)]
theorem TA(l:Q1)(n:Nat):dH (l.take n)=(dH l).take n:=by rw[vZ,vZ,acj]
theorem Tz(l:Q1)(n:Nat):dH (l.drop n)=(dH l).drop n:=by rw[vZ,vZ,List.map_drop]
theorem Ht(l m:Q1):dH (l++m)=dH l++dH m:=by rw[vZ,vZ,vZ,lX]
theorem ungroup:∀(xs:Q1)(vs:Q6),aC F (bI xs) vs->(∀x∈xs,x.cells.all GV.scalar=true)->∃ys,aO F.ro xs ys/\bY ys=vs/\∀(k:Nat) x y,xs[k]? =some x->ys[k]? =some y->y.cells.size=x.cells.length
 |[],vs,h,_=>by simp only[bI,List.flatMap_nil,dH,aC]at h;subst h;exact⟨[],by simp[aO],rfl,by simp⟩
 |x::xs,vs,h,hsc=>by
  have h':aC F (dH x.cells++bI xs) vs:=by rw[bI,jC,Ht]at h;exact h
  have h1:=h'.take x.cells.length;have h2:=h'.drop x.cells.length;rw[QA (by rw[lS];omega),jZ (by rw[lS];omega)]at h1;rw[WC (by rw[lS];omega),fZ (by rw[lS];omega),aV]at h2;obtain⟨ys,g1,g2,g3⟩:=ungroup xs _ h2 (λy hy=>hsc y (by simp[hy]));have hl:=h1.length;rw[lS]at hl;have fin:∀y,GR F.ro x y->y.cells.toList=vs.take x.cells.length->∃ys,aO F.ro (x::xs) ys/\bY ys=vs/\∀(k:Nat) x' y,(x::xs)[k]? =some x'->ys[k]? =some y->y.cells.size=x'.cells.length:=by
   intro y hy hyc;refine⟨y::ys,by simp only[aO];exact⟨y,ys,rfl,hy,g1⟩,?_,?_⟩
   ·have:bY (y::ys)=y.cells.toList++bY ys:=by simp[bY]
    rw[this,hyc,g2,JL]
   ·intro k x' y' hk hk';cases k with
    |zero=>simp at hk hk';subst hk;subst hk';rw[hl,<-hyc];simp
    |succ k=>exact g3 k x' y' (by simpa using hk) (by simpa using hk')
  cases x with
  |g cs=>exact fin (.agg ⟨vs.take cs.length⟩) (by simp only[GR];exact⟨_,rfl,(ou _ _).2 h1⟩) rfl
  |_=>simp only[GV.cells,dH,aC,gQ,kT]at h1 hl;obtain⟨u,us,e1,e2,rfl⟩:=h1;refine fin u ((kR _ _).2 e2) ?_;rw[ag9 (GR.nZ ((kR _ _).2 e2) rfl)];exact e1.symm
theorem aO.scalars{ro:Qf}:∀{gs:Q1}{vs:Q6},aO ro gs vs->(∀v∈vs,nZ v=true)->gs.all GV.scalar=true
 |[],_,_,_=>rfl
 |g::gs,vs,h,ho=>by
  simp only[aO]at h;obtain⟨x,xs,rfl,h1,h2⟩:=h;simp only[qK,aK];refine⟨?_,aO.scalars h2 λv hv=>ho v (by simp[hv])⟩;cases g with
  |g cs=>simp only[GR]at h1;obtain⟨vs,rfl,_⟩:=h1;have:=ho (.agg ⟨vs⟩) (by simp);simp[nZ]at this
  |_=>rfl
theorem OR.Lr{q:Place}{m et:Nat}{f:Bool}(h:OR P F q w (.vec m et f)):∃xs,aH.val m=some (.l xs)/\(∀x∈xs,x.cells.length=q.es)/\et≠0/\0<q.es/\sizeT P et=some q.es/\xs.length*q.es<=q.sz/\(∀x∈xs,x.cells.all GV.scalar=true)/\OR P F q w (.cells (bI xs) et true true):=by
 obtain⟨xs,cs,elem,fr,ys,h1,h2,h3,h4,h5,h6,r,h8,_⟩:=h;obtain⟨a1,a2,a3⟩:=r.room rfl;have hsz:∀x∈xs,x.cells.length=q.es:=by intro x hx;obtain⟨k,hk⟩:=JH hx;obtain⟨y,hy,hv⟩:=h3.at hk;rw[hv.XI];exact h4 y (rC hy)
 have hvs:aC F (bI xs) (bY ys):=by rw[bI,<-YE];exact aeV ((ou _ _).1 h3)
 refine⟨xs,h1,hsz,a1,a2,a3,h6,h8,cs,elem,fr,h2,{fits:=r.fits,le:=by rw[bI,lS,Ox hsz];exact h6,shut:=by simp,cell:=λk a hk=>?_,free:=r.free,whole:=r.whole,room:=r.room}⟩;obtain⟨v,hv,hr⟩:=hvs.at hk;exact⟨v,h5 k v hv,hr⟩
theorem OR.Wi{q:Place}{m et:Nat}(h:OR P F q w (.vec m et true)):q.es<=q.sz:=by obtain⟨xs,cs,elem,fr,ys,h1,h2,h3,h4,h5,h6,r,h8,h9⟩:=h;exact h9 rfl
theorem OR.xM{q:Place}{m et:Nat}{f:Bool}{xs:Q1}(hf:f=true->q.es<=q.sz)(hv:aH.val m=some (.l xs))(hsz:∀x∈xs,x.cells.length=q.es)(hsc:∀x∈xs,x.cells.all GV.scalar=true){c:Q3}(h:OR P F q w (.cells c et true true))(hc:∀vs,aC F c vs->aC F (bI xs) vs):OR P F q w (.vec m et f):=by
 obtain⟨cs,elem,fr,h1,r⟩:=h;have hfit:=r.fits;have hle:=r.le;have hcv:aC F c ((cs.toList.drop q.ba).take c.length):=by refine aC.of (by simp;omega) λk a hk=>?_;obtain⟨x,hx,hv⟩:=r.cell k a hk;have hlt:=(eU.1 hk).1;exact⟨x,by rw[kS,aj hlt,ru];simpa using hx,hv⟩
 have hg:=hc _ hcv;obtain⟨ys,g1,g2,g3⟩:=ungroup xs _ hg hsc;have hlen:xs.length*q.es=c.length:=by have:=hg.length;rw[bI,lS,Ox hsz]at this;rw[this];simp;omega
 refine⟨xs,cs,elem,fr,ys,hv,h1,g1,λy hy=>?_,λk x hk=>?_,by omega,{fits:=r.fits,le:=by simp,shut:=by simp,cell:=by simp,free:=r.free,whole:=r.whole,room:=r.room},hsc,hf⟩
 ·obtain⟨k,hk⟩:=JH hy;have hkl:k<xs.length:=by rw[g1.length];exact(eU.1 hk).1
  rw[g3 k _ y (bK hkl) hk];exact hsz _ (gK hkl)
 ·rw[g2,kS]at hk;split at hk
  ·rw[ru]at hk;simpa using hk
  ·cases hk
def kE(J:aA)(id:Nat)(xs:Q1)(et:TypeId):aA:=J.put id (.cells (bI xs) et true true)
theorem MX(h:SR P F J w){id m et:Nat}{f:Bool}{q:Place}(hg:J.get id=some (.vec m et f))(hq:F id=some q):∃xs,aH.val m=some (.l xs)/\(∀x∈xs,x.cells.length=q.es)/\et≠0/\0<q.es/\sizeT P et=some q.es/\xs.length*q.es<=q.sz/\(∀x∈xs,x.cells.all GV.scalar=true)/\SR P F (kE J id xs et) w:=by obtain⟨xs,h1,h2,h3,h4,h5,h6,h7,h8⟩:=(h.at hg hq).Lr;exact⟨xs,h1,h2,h3,h4,h5,h6,h7,h.swap hg rfl (.inl ⟨q,hq,h8⟩)⟩
theorem D6{id:Nat}{xs:Q1}{et:TypeId}:(kE J id xs et).get id=some (.cells (bI xs) et true true):=by unfold kE;rw[aA.get_put,aj rfl]
theorem Qh{F':Env}{w':World}{id m et:Nat}{f:Bool}{xs:Q1}(hg:J.get id=some (.vec m et f))(h:St P F (kE J id xs et) w F' J' w'):St P F J w F' J' w':=by
 refine h.left rfl rfl λk u hk ho=>?_;unfold kE at hk;rw[aA.get_put]at hk;split at hk
 ·next e=>subst e;exact⟨_,hg,rfl⟩
 ·exact⟨u,hk,ho⟩
theorem aAG{F':Env}{w':World}{id m et:Nat}{f:Bool}{q:Place}{xs:Q1}(hf:f=true->q.es<=q.sz)(hg:J.get id=some (.vec m et f))(hq:F id=some q)(hv:aH.val m=some (.l xs))(hsz:∀x∈xs,x.cells.length=q.es)(hsc:∀x∈xs,x.cells.all GV.scalar=true)(h:St P F J w F' (kE J id xs et) w'):St P F J w F' J w':=by
 have hq':=h.ext.pl _ _ hq;have hor:=OR.xM hf hv hsz hsc (h.rel.at D6 hq') (λ_ h=>h);refine h.right ((h.rel.swap (o':=.vec m et f) D6 rfl (.inl ⟨q,hq',hor⟩)).sub (λk o hk=>?_) (bV _)) rfl rfl (λk o hk ho=>?_)
 ·unfold kE;rw[aA.get_put,aA.get_put];split
  ·next e=>rw[e,hg]at hk;exact hk
  ·exact hk
 ·unfold kE;rw[aA.get_put];split
  ·exact⟨_,rfl,rfl⟩
  ·exact⟨o,hk,ho⟩
theorem RN{m:Nat}{g:GV}(hv:aH.val m=some g):∀(n off:Nat){l:Q3},GX m off n=some l->∃r,takeN (dH g.cells) off n=some r/\∀vs,aC F r vs->aC F l vs
 |0,off,l,h=>by simp only[GX,aW]at h;subst h;exact⟨[],by simp[takeN],λ_ h=>h⟩
 |n+1,off,l,h=>by
  simp only[GX]at h;split at h
  ·next a r ha hr=>
   cases h;obtain⟨_,g',_,h2,h3⟩:=mF (F:=F) ha;simp only[Nd.den,hv]at h2;split at h2
   ·next c hc=>
    split at h2
    ·next hs=>
     cases h2;obtain⟨r',h4,h5⟩:=RN hv n (off+1) hr;obtain⟨e1,e2,e3⟩:=qV h4;refine⟨kC g'::r',?_,?_⟩
     ·have hlt:off<g.cells.length:=(eU.1 hc).1;have hd:(dH g.cells).drop off=kC g'::(dH g.cells).drop (off+1):=by
       have hget:(dH g.cells)[off]? =some (kC g'):=by rw[OB,hc];rfl
       obtain⟨hl',he⟩:=eU.1 hget;rw[gY hl',he]
      unfold takeN;simp only[hd,BL,<-e1,gQ,e2,if_true]
     ·intro vs hvs;simp only[aC]at hvs⊢;obtain⟨x,xs,rfl,k1,k2⟩:=hvs;exact⟨x,xs,rfl,h3 x hs ((kR _ _).2 k1),h5 xs k2⟩
    ·cases h2
   ·cases h2
  ·cases h
theorem abn{t:TypeId}{m off:Nat}{g:GV}{v:AV}(hv:aH.val m=some g)(h:Qb P t m off=some v):∃r,(match nI P t with
 |some true=>match sizeT P t with
  |some n=>(takeN (dH g.cells) off n).map .agg
  |none=>none
 |some false=>(dH g.cells)[off]?
 |none=>none)=some r/\∀y,VR F r y->VR F v y:=by
 unfold Qb at h;split at h
 ·next ha=>
  split at h
  ·next n hn=>
   obtain⟨l,hl,rfl⟩:=aZ.1 h;obtain⟨r,h1,h2⟩:=RN (F:=F) hv n off hl;rw[ha,hn];refine⟨.agg r,by simp[h1],λy hy=>?_⟩;simp only[VR]at hy⊢;obtain⟨vs,rfl,h3⟩:=hy;exact⟨vs,rfl,h2 vs h3⟩
  ·cases h
 ·next ha=>
  obtain⟨_,g',_,h2,h3⟩:=mF (F:=F) h;simp only[Nd.den,hv]at h2;split at h2
  ·next c hc=>
   split at h2
   ·next hs=>
    cases h2;rw[ha];exact⟨kC g',by simp only;rw[OB,hc];rfl,λy hy=>h3 y hs ((kR _ _).2 hy)⟩
   ·cases h2
  ·cases h2
 ·cases h
theorem az5(h:SR P F J w){t:TypeId}{a v:AV}{x:Value}(hs:VN P t J a=some v)(hx:VR F a x):∃y,(Instr.loadAt t x).run P w=.ok y w/\VR F v y:=by
 unfold VN at hs;split at hs
 ·next m off=>
  simp only[VR]at hx;obtain⟨g,bl,base,cs,elem,fr,u,h1,h2,h3,rfl,h4⟩:=hx;obtain⟨r,hr,hv⟩:=abn (F:=F) h1 hs;have hx':VR F (.rp (kC g) off) (.pointer (some ⟨bl,base+off,none⟩)):=by simp only[VR];exact⟨bl,base,cs,elem,fr,u,h2,(kR _ _).1 h3,rfl,h4⟩
  have hl:vN P t J (.rp (kC g) off)=some r:=by simp only[vN,KO];exact hr
  obtain⟨y,h5,h6⟩:=E5 h hl hx';exact⟨y,h5,hv y h6⟩
 ·next id i off=>
  split at hs
  ·next m et _ hg=>
   split at hs
   ·next size hsz=>
    split at hs
    ·next e he=>
     simp only[VR]at hx;obtain⟨q,k,j,hq,hj,rfl⟩:=hx;obtain⟨xs,h1,h2,h3,h4,h5,_,_,hS⟩:=MX h hg hq;rw[hsz]at h5;cases h5;obtain⟨g,g1,g2⟩:=gB he;simp only[Nd.den,h1,hj]at g2;split at g2
     ·next hj0=>
      split at g2
      ·next x hxi=>
       split at g2
       ·next hxl=>
        cases g2;obtain⟨r,hr,hv⟩:=abn (F:=F) g1 hs;have hat:=aqj h2 hxi;have hcell:∀n r',takeN (dH g.cells) off n=some r'->takeN (bI xs) (j.toNat*q.es+off) n=some r':=by
         intro n r' hr';obtain⟨e1,e2,e3⟩:=qV hr';rw[lS]at e3;have:((bI xs).drop (j.toNat*q.es+off)).take n=r':=by rw[<-sK,bI,<-Tz,e1,<-hat,TA,JF,acs];congr 1;rw[hxl]at e3;omega
         unfold takeN;simp only[this,e2,if_true]
        have hget:∀r',(dH g.cells)[off]? =some r'->(bI xs)[j.toNat*q.es+off]? =some r':=by
         intro r' hr';have hlt:off<q.es:=by have:=(eU.1 hr').1;rw[lS,hxl]at this;exact this
         rw[<-hat,TA,kS,aj hlt,Tz,ru]at hr';exact hr'
        have hl:vN P t (kE J id xs et) (.p id (j.toNat*q.es+off))=some r:=by
         simp only[vN,D6];split at hr
         ·next ha=>
          rw[ha];split at hr
          ·next n hn=>
           rw[hn];obtain⟨r',hr',rfl⟩:=aZ.1 hr;simp only[hcell n r' hr',gI]
          ·cases hr
         ·next ha=>rw[ha];exact hget r hr
         ·cases hr
        obtain⟨y,h5,h6⟩:=E5 hS hl (x:=.pointer (some ⟨q.bl,q.ba+j.toNat*q.es+off,none⟩)) (by simp only[VR];exact⟨q,hq,by rw[jL]⟩);exact⟨y,h5,hv y h6⟩
       ·cases g2
      ·cases g2
     ·cases g2
    ·cases hs
   ·cases hs
  ·cases hs
 ·cases hs
theorem az1{t:TypeId}{a v:AV}{x:Value}{f:Nat}(h:VJ P t a f=some v)(hx:VR F a x):∃y,(Instr.fieldAt t x f).run P w=.ok y w/\VR F v y:=by
 unfold VJ at h;split at h
 ·next fields hu=>
  split at h
  ·next fd hf=>
   split at h
   ·next n hn=>
    split at h
    ·cases h
    ·next h0=>
     split at h
     ·next m off=>
      cases h;simp only[VR]at hx;obtain⟨g,bl,base,cs,elem,fr,u,h1,h2,h3,rfl,h4⟩:=hx;refine⟨.pointer (some ⟨bl,base+off+fd.offset,none⟩),?_,?_⟩
      ·simp[Instr.fieldAt,aX hu,hf,Instr.sureAddr,fieldPlace,iY hn,h0,qw]
      ·simp only[VR];exact⟨g,bl,base,cs,elem,fr,u,h1,h2,h3,by rw[jL],h4⟩
     ·next id m off=>
      cases h;simp only[VR]at hx;obtain⟨q,k,i,hq,hi,rfl⟩:=hx;refine⟨.pointer (some ⟨q.bl,q.ba+i.toNat*q.es+off+fd.offset,none⟩),?_,?_⟩
      ·simp[Instr.fieldAt,aX hu,hf,Instr.sureAddr,fieldPlace,iY hn,h0,qw]
      ·simp only[VR];exact⟨q,k,i,hq,hi,by rw[jL]⟩
     ·cases h
   ·cases h
  ·cases h
 ·cases h
theorem O3{i:Nat}{g:GV}{y:Value}(hg:aH.val i=some g)(hy:GR F.ro g y):∀{c j:Nat}{k:AV},Ig i c j=some k->∃(kk:IntKind)(m:Int),k=.i .i64 m/\y=.int kk m
 |0,j,k,h=>by cases h
 |c+1,j,k,h=>by
  unfold Ig at h;have key:∀{r v},jV (.zq i j)=some r->(∀x,VR F r x->VR F (.b v) x)->∃(kk:IntKind)(m:Int),g=.i kk m/\decide (m=(j:Int))=v:=by
   intro r v hb hv;obtain⟨_,r',q1,q2,q3⟩:=mF (F:=F) hb;simp only[Nd.den,hg]at q2;cases g with
   |i kk m=>simp only[aW]at q2;subst q2;have:=hv _ (q3 (.bool (decide (m=(j:Int)))) rfl (by simp only[GR]));simp only[VR]at this;cases this;exact⟨kk,m,rfl,rfl⟩
   |_=>cases q2
  have fin:∀{r},jV (.zq i j)=some r->(∀x,VR F r x->VR F (.b true) x)->some (AV.i .i64 (j:Int))=some k->∃(kk:IntKind)(m:Int),k=.i .i64 m/\y=.int kk m:=by
   intro r hb hv he;obtain⟨kk,m,rfl,hm⟩:=key hb hv;cases he;have hm:m=(j:Int):=by simpa using hm
   subst hm;simp only[GR]at hy;exact⟨kk,_,rfl,hy⟩
  split at h
  ·next hb=>exact fin hb (λ_ h=>h) h
  ·next hb=>exact O3 hg hy h
  ·next m hb=>
   split at h
   ·next hd=>
    obtain⟨v,hv,q4⟩:=G5 hd;cases hv;exact fin hb (λx hx=>q4 F x hx) h
   ·next hd=>exact O3 hg hy h
   ·cases h
  ·cases h
theorem az2(h:SR P F J w){t:TypeId}{a i v:AV}{x y:Value}(hs:VL P J t a i=some v)(hx:VR F a x)(hy:VR F i y):∃z,(Instr.indexAt t x y).run P w=.ok z w/\VR F v z:=by
 unfold VL at hs;split at hs
 ·next e hu=>
  split at hs
  ·next size ni hsz hni=>
   obtain⟨gi,i1,i2,i3⟩:=lF hni hy;split at hs
   ·next n=>
    obtain⟨m,hm,rfl⟩:=aZ.1 hs;obtain⟨g,g1,g2⟩:=gB hm;simp only[VR]at hx;obtain⟨gl,l1,l2,l3⟩:=hx;simp only[Nd.den,l1,i1]at g2;split at g2
    ·next xs k j e1 e2=>
     cases e1;cases e2;simp only[GR]at i3;subst i3;split at g2
     ·next hj=>
      split at g2
      ·next z hz=>
       split at g2
       ·next hzl=>
        cases g2;have hl:xZ P t (.ro (dH xs)) (.i k j)=some (.rp (kC g) 0):=by
         have:(dH xs)[j.toNat]? =some (kC g):=by rw[OB,hz];rfl
         simp only[xZ,hu,vM,hsz,aj hj,this,KO,lS,hzl,if_true]
        obtain⟨z',h5,h6⟩:=OX (P:=P) (w:=w) hl ((kR (.l xs) x).1 l3) (by simp only[VR]:VR F (.i k j) (.int k j));refine⟨z',h5,?_⟩;simp only[VR]at h6⊢;obtain⟨bl,base,cs,elem,fr,u,k1,k2,k3,k4⟩:=h6;exact⟨g,bl,base,cs,elem,fr,u,g1,k1,(kR _ _).2 k2,k3,k4⟩
       ·cases g2
      ·cases g2
     ·cases g2
    ·cases g2
   ·next id n=>
    split at hs
    ·next m et _ hg=>
     split at hs
     ·next het=>
      have H7:=bD het;subst H7;obtain⟨m',hm,rfl⟩:=aZ.1 hs;obtain⟨g,g1,g2⟩:=gB hm;simp only[VR]at hx;obtain⟨xs,l1,hx⟩:=hx;simp only[Nd.den,l1,i1]at g2;split at g2
      ·next xs' k j e1 e2=>
       cases e1;cases e2;simp only[GR]at i3;subst i3;split at g2
       ·next hj=>
        cases g2;rcases hx with⟨q,hq,hle,rfl⟩|⟨_,rfl,_⟩
        ·obtain⟨_,_,_,_,_,h5,_⟩:=(h.at hg hq).Lr;rw[hsz]at h5;cases h5;have hl:xZ P t (.sl id 0 xs.length none) (.i k j)=some (.p id (0+j.toNat*q.es)):=by simp only[xZ,hu,vM,hsz,aj hj]
         obtain⟨z',h6,h7⟩:=OX (P:=P) (w:=w) (x:=.slice (some ⟨q.bl,q.ba,none⟩) xs.length (q.sz/q.es)) hl (by simp only[VR];exact⟨q,hq,by simpa using hle,by simp⟩) (by simp only[VR]:VR F (.i k j) (.int k j));refine⟨z',h6,?_⟩;simp only[VR]at h7⊢;obtain⟨q',hq',rfl⟩:=h7;rw[hq]at hq';cases hq';exact⟨q,.i64,j,hq,g1,by simp⟩
        ·simp at hj;omega
       ·cases g2
      ·cases g2
     ·cases hs
    ·cases hs
   ·next id off len cap=>
    split at hs
    ·next k hk=>
     obtain⟨kk,m,rfl,rfl⟩:=O3 i1 i3 hk;have hs':xZ P t (.sl id off len cap) (.i kk m)=some v:=hs;exact OX hs' hx (by simp only[VR])
    ·cases hs
   ·cases hs
  ·cases hs
 ·next len e hu=>
  split at hs
  ·next ni hi=>
   obtain⟨g,i1,_,i3⟩:=lF hi hy;split at hs
   ·next k hk=>
    obtain⟨kk,m,rfl,rfl⟩:=O3 i1 i3 hk;have hs':xZ P t a (.i kk m)=some v:=hs;exact OX hs' hx (by simp only[VR])
   ·cases hs
  ·cases hs
 ·cases hs
theorem az4{t:TypeId}{ts:Wm}{ty:TypeId}{a v:AV}{x:Value}(ht:ts[0]? =some t)(hs:abm P t a=some v)(hx:VR F a x):
 ∃y,(Builtin.len_ ts ty #[x]).run P w=.ok y w/\VR F v y:=by
 have axl:∀s:Q0,P.underlying t=some .string->(Builtin.len_ ts ty #[.string ⟨⟨s⟩⟩]).run P w=.ok (.int .i64 s.length) w:=λs hu=>by simp[Builtin.len_,ht,aX hu,goInt,strSize]
 have Vg:∀(e:TypeId) b (n c:Nat),P.underlying t=some (.slice e)->(Builtin.len_ ts ty #[.slice b n c]).run P w=.ok (.int .i64 n) w:=λe b n c hu=>by simp[Builtin.len_,ht,aX hu,goInt]
 unfold abm at hs;split at hs
 ·next n hu=>
  obtain⟨_,g,_,h2,h3⟩:=mF (F:=F) hs;simp only[VR]at hx;obtain⟨g0,a1,a2,a3⟩:=hx;simp only[Nd.den,a1]at h2;split at h2
  ·next s e1=>
   cases e1;cases h2;simp only[GR]at a3;subst a3;exact⟨_,axl s hu,h3 _ rfl (by simp only[GR])⟩
  ·cases h2
 ·next e n hu=>
  obtain⟨_,g,_,h2,h3⟩:=mF (F:=F) hs;simp only[VR]at hx;obtain⟨g0,a1,a2,a3⟩:=hx;simp only[Nd.den,a1]at h2;split at h2
  ·next xs e1=>
   cases e1;cases h2;simp only[GR]at a3;rcases a3 with⟨rfl,_,rfl⟩|⟨bl,off,c,ys,sz,rfl,_⟩
   ·exact⟨_,Vg e _ _ _ hu,h3 _ rfl (by simp only[GR];rfl)⟩
   ·exact⟨_,Vg e _ _ _ hu,h3 _ rfl (by simp only[GR])⟩
  ·cases h2
 ·next e id n hu=>
  obtain⟨_,g,_,h2,h3⟩:=mF (F:=F) hs;simp only[VR]at hx;obtain⟨xs,l1,hx⟩:=hx;simp only[Nd.den,l1,aW]at h2;subst h2;rcases hx with⟨q,hq,hle,rfl⟩|⟨_,rfl,rfl⟩
  ·exact⟨_,Vg e _ _ _ hu,h3 _ rfl (by simp only[GR])⟩
  ·exact⟨_,Vg e _ _ _ hu,h3 _ rfl (by simp only[GR];rfl)⟩
 ·cases hs
theorem az3{t:TypeId}{a i v:AV}{x y:Value}(hs:VK P t a i=some v)(hx:VR F a x)(hy:VR F i y):∃z,(Instr.index t x y).run P w=.ok z w/\VR F v z:=by
 unfold VK at hs;split at hs
 ·next hu=>
  split at hs
  ·next n ni hn hni=>
   obtain⟨gi,i1,i2,i3⟩:=lF hni hy;obtain⟨gs,l1,l2,l3⟩:=lF hn hx;obtain⟨_,g,_,h2,h3⟩:=mF (F:=F) hs;simp only[Nd.den,l1,i1]at h2;split at h2
   ·next s k j e1 e2=>
    cases e1;cases e2;simp only[GR]at i3;subst i3;simp only[GR]at l3;subst l3;split at h2
    ·next hj=>
     split at h2
     ·next c hc=>
      cases h2;have hl:Eh P t (.s s) (.i k j)=some (.i .u8 c.toNat):=by simp only[Eh,hu,vM,aj hj,hc]
      obtain⟨z,h5,h6⟩:=Y7 (P:=P) (w:=w) (F:=F) hl (by simp only[VR]:VR F (.s s) (.string ⟨⟨s⟩⟩)) (by simp only[VR]:VR F (.i k j) (.int k j));exact⟨z,h5,h3 z rfl ((kR _ _).2 h6)⟩
     ·cases h2
    ·cases h2
   ·cases h2
  ·cases hs
 ·next len e hu=>
  split at hs
  ·next ni hi=>
   obtain⟨g,i1,_,i3⟩:=lF hi hy;split at hs
   ·next k hk=>
    obtain⟨kk,m,rfl,rfl⟩:=O3 i1 i3 hk;have hs':Eh P t a (.i kk m)=some v:=hs;exact Y7 hs' hx (by simp only[VR])
   ·cases hs
  ·cases hs
 ·cases hs
theorem ac9{F:Env}{lo:Q4}{lo':Wt}{l:Nat}{d:Nd}{gl:GV}(hb:(match lo with|none=>fF d|some a=>iQ a)=some l)(ho:kU F lo lo')(hv:aH.val l=some gl):
 (lo=none/\lo'=none/\d.den aH.I aH.val=some gl)\/(∃v,lo'=some v/\GR F.ro gl v):=by
 cases lo with
 |none=>
  obtain⟨g,h1,h2⟩:=gB hb;rw[hv]at h1;cases h1;refine .inl ⟨rfl,?_,h2⟩;cases lo' with
  |none=>rfl
  |some v=>simp[kU]at ho
 |some a=>
  cases lo' with
  |none=>simp[kU]at ho
  |some v=>
   have hv':VR F a v:=by simpa[kU]using ho
   obtain⟨g,h1,_,h3⟩:=lF hb hv';rw[hv]at h1;cases h1;exact .inr ⟨v,rfl,h3⟩
theorem abo{lo hi:Q4}{lo' hi':Wt}{l h:Nat}{d:Nd}{k k':IntKind}{li hn:Int}{len:Nat}(hlo:NW lo=some l)(hhi:Ro d hi=some h)(h1:kU F lo lo')(h2:kU F hi hi')
 (hl:aH.val l=some (.i k li)) (hh:aH.val h=some (.i k' hn)) (hd:d.den aH.I aH.val=some (.i k' hn)->hn=len) (h0:0<=li) (hlh:li<=hn) (hle:hn<=len):
 ∃lo2 hi2:Q4,kU F lo2 lo'/\kU F hi2 hi'/\xq len (λh=>Nat.ble h len) lo2 hi2=some (li.toNat,hn.toNat):=by
 have hb1:=ac9 (d:=.ci .i64 0) (by cases lo<;>exact hlo) h1 hl;have hb2:=ac9 (d:=d) (by cases hi<;>exact hhi) h2 hh;have hroom:Nat.ble hn.toNat len=true:=acv (by omega);have hH:∃hi2:Q4,kU F hi2 hi'/\zV len (λh=>Nat.ble h len) hi2=some hn.toNat:=by
  rcases hb2 with⟨_,e2,e3⟩|⟨v,rfl,e3⟩
  ·refine⟨none,by rw[e2];simp[kU],?_⟩;simp only[zV];rw[hd e3];simp
  ·simp only[GR]at e3;subst e3;exact⟨some (.i k' hn),by simp[kU,VR],by simp only[zV,vM];rw[aj ⟨by omega,hroom⟩]⟩
 have hL:∃lo2:Q4,kU F lo2 lo'/\JY hn.toNat lo2=some li.toNat:=by
  rcases hb1 with⟨_,e2,e3⟩|⟨v,rfl,e3⟩
  ·refine⟨none,by rw[e2];simp[kU],?_⟩;simp only[Nd.den,aW,GV.i.injEq]at e3;simp only[JY];rw[<-e3.2];rfl
  ·simp only[GR]at e3;subst e3;exact⟨some (.i k li),by simp[kU,VR],by simp only[JY,vM];rw[aj ⟨h0,by omega⟩]⟩
 obtain⟨hi2,a1,a2⟩:=hH;obtain⟨lo2,b1,b2⟩:=hL;exact⟨lo2,hi2,b1,a1,by simp only[xq,a2,b2]⟩
theorem ai5(h:SR P F J w){t:TypeId}{a v:AV}{x:Value}{lo hi:Q4}{lo' hi':Wt}(hs:Qc P t a lo hi=some v)(hx:VR F a x)(hlo:kU F lo lo')(hhi:kU F hi hi'):
 ∃y,(Instr.sliceAt t x lo' hi' none).run P w=.ok y w/\VR F v y:=by
 unfold Qc at hs;split at hs
 ·next hu=>
  split at hs
  ·next n hn=>
   split at hs
   ·next l hh h1 h2=>
    obtain⟨gs,s1,s2,s3⟩:=lF hn hx;obtain⟨_,g,_,h4,h5⟩:=mF (F:=F) hs;simp only[Nd.den,s1]at h4;split at h4
    ·next s k li k' hi2 e1 e2 e3=>
     cases e1;split at h4
     ·next hc=>
      cases h4;simp only[GR]at s3;subst s3;obtain⟨lo2,hi3,b1,b2,b3⟩:=abo (len:=s.length) h1 h2 hlo hhi e2 e3 (λhd=>by simp only[Nd.den,s1,aW,GV.i.injEq]at hd;exact hd.2.symm) hc.1 hc.2.1 hc.2.2;have hl:zX P t J (.s s) lo2 hi3=some (.s ((s.take hi2.toNat).drop li.toNat)):=by simp only[zX,hu,b3,gI]
      obtain⟨z,h6,h7⟩:=Vu h hl (by simp only[VR]:VR F (.s s) (.string ⟨⟨s⟩⟩)) b1 b2;exact⟨z,h6,h5 z rfl ((kR _ _).2 h7)⟩
     ·cases h4
    ·cases h4
   ·cases hs
  ·cases hs
 ·next e hu=>
  split at hs
  ·next n size hsz=>
   split at hs
   ·next l hh h1 h2=>
    simp only[VR]at hx;obtain⟨gs,s1,s2,s3⟩:=hx;obtain⟨_,g,_,h4,h5⟩:=mF (F:=F) hs;simp only[Nd.den,s1]at h4;split at h4
    ·next xs k li k' hi2 e1 e2 e3=>
     cases e1;split at h4
     ·next hc=>
      cases h4;obtain⟨c1,c2,c3,c4⟩:=hc;obtain⟨lo2,hi3,b1,b2,b3⟩:=abo (len:=xs.length) h1 h2 hlo hhi e2 e3 (λhd=>by simp only[Nd.den,s1,aW,GV.i.injEq]at hd;exact hd.2.symm) c1 c2 c3;have hl:zX P t J (.ro (dH xs)) lo2 hi3=some (.ro (dH ((xs.take hi2.toNat).drop li.toNat))):=by
       simp only[zX,hu,hsz,lS,b3,yQ];unfold QZ;split
       ·next e=>
        have:(xs.take hi2.toNat).drop li.toNat=[]:=fZ (by simp;omega);rw[this];rfl
       ·next e=>
        have hpos:0<xs.length:=by omega
        have h0:(dH xs)[0]? =some (kC xs[0]):=by rw[OB,bK hpos];rfl
        rw[h0];simp only;have hc0:(kC xs[0]).cells.length=size:=by rw[KO,lS];rw[List.all_eq_true]at c4;exact bD (c4 _ (gK hpos))
        rw[aj hc0,Tz,TA]
      obtain⟨z,h6,h7⟩:=Vu h hl ((kR (.l xs) x).1 s3) b1 b2;exact⟨z,h6,h5 z rfl ((kR _ _).2 (by simpa only[kC]using h7))⟩
     ·cases h4
    ·cases h4
   ·cases hs
  ·cases hs
 ·cases hs
theorem avX{cs vs r:Q1}{off:Nat}(h:putCells cs off vs=some r):off+vs.length<=cs.length/\r=cs.take off++vs++cs.drop (off+vs.length):=by
 unfold putCells at h;split at h
 ·next hl=>cases h;exact⟨hl,rfl⟩
 ·cases h
theorem GV.av1{x y:GV}{off:Nat}{vs:Q1}(h:x.put off vs=some y)(hs:vs.all GV.scalar=true)(hx:x.cells.all GV.scalar=true):off+vs.length<=x.cells.length/\y.cells=x.cells.take off++vs++x.cells.drop (off+vs.length)/\y.cells.length=x.cells.length/\y.cells.all GV.scalar=true:=by
 have fin:∀r:Q1,off+vs.length<=x.cells.length->r=x.cells.take off++vs++x.cells.drop (off+vs.length)->r.length=x.cells.length/\r.all GV.scalar=true:=by intro r h1 h2;subst h2;refine⟨by simp;omega,?_⟩;rw[ab6,ab6,hs];rw[List.all_eq_true]at hx;simp only[Qs,aK,List.all_eq_true];exact⟨λa ha=>hx a (JK ha),λa ha=>hx a (Nr ha)⟩
 have one:∀v,off=0->vs=[v]->x.cells.length=1->y=v->off+vs.length<=x.cells.length/\y.cells=x.cells.take off++vs++x.cells.drop (off+vs.length)/\y.cells.length=x.cells.length/\y.cells.all GV.scalar=true:=by intro v e1 e2 e3 e4;subst e1;subst e2;subst e4;simp only[qK,ab7,Qs]at hs;have hy:y.cells=[y]:=GV.Jd hs;refine⟨by simp[e3],?_,by rw[hy,e3];rfl,by rw[hy];simp[hs]⟩;rw[hy,fZ (by rw[e3];simp)];simp
 unfold GV.put at h;split at h
 ·next cs=>
  obtain⟨r,hr,rfl⟩:=aZ.1 h;obtain⟨h1,h2⟩:=avX hr;obtain⟨h3,h4⟩:=fin r h1 h2;exact⟨h1,h2,h3,h4⟩
 ·next hng=>
  have hc:x.cells.length=1:=by
   cases x with
   |g cs=>exact absurd rfl (hng cs)
   |_=>rfl
  split at h
  ·next v=>cases h;exact one y rfl rfl hc rfl
  ·cases h
theorem aeX{y:GV}{vs:Q1}{off sz:Nat}:∀{xs:Q1}{i:Nat}{x:GV},(∀z∈xs,z.cells.length=sz)->xs[i]? =some x->off+vs.length<=sz->y.cells=x.cells.take off++vs++x.cells.drop (off+vs.length)->
 (xs.set i y).flatMap GV.cells=(xs.flatMap GV.cells).take (i*sz+off)++vs++(xs.flatMap GV.cells).drop (i*sz+off+vs.length)
 |[],i,x,_,hi,_,_=>by simp at hi
 |z::xs,0,x,hs,hi,hle,hy=>by simp only[jS,aW]at hi;subst hi;have hz:=hs z (by simp);rw[List.set_cons_zero,jC,jC,hy];rw[QA (by omega),WC (by omega)];simp[List.append_assoc]
 |z::xs,i+1,x,hs,hi,hle,hy=>by
  have hz:=hs z (by simp);have ih:=aeX (i:=i) (λu hu=>hs u (wY _ hu)) (by simpa using hi) hle hy;rw[List.set_cons_succ,jC,jC,ih];have t1:∀(Fx:Q1) k,(z.cells++Fx).take (z.cells.length+k)=z.cells++Fx.take k:=λF k=>by rw[List.take_append,jZ (by omega),WV]
  have t2:∀(Fx:Q1) k,(z.cells++Fx).drop (z.cells.length+k)=Fx.drop k:=λF k=>by rw[ace,fZ (by omega),aV,WV]
  have e:(i+1)*sz+off=z.cells.length+(i*sz+off):=by rw[hz,qM];omega
  rw[e,t1,jL z.cells.length,t2];simp[List.append_assoc]
theorem ZI:∀{l:Q3}{ns:Q2},nodesOf l=some ns->l.all AV.nH=true
 |[],_,_=>rfl
 |a::l,ns,h=>by
  simp only[nodesOf]at h;split at h
  ·next n r hn hr=>
   simp only[qK,aK];exact⟨by cases a<;>simp[iQ]at hn<;>rfl,ZI hr⟩
  ·cases h
theorem aC.split{l m:Q3}:∀{vs:Q6},aC F (l++m) vs->∃us ws,vs=us++ws/\aC F l us/\aC F m ws:=by
 intro vs h;have hl:=h.length;rw[fU]at hl;refine⟨vs.take l.length,vs.drop l.length,(JL _ _).symm,?_,?_⟩
 ·have:=h.take l.length;rwa [QA (by omega),jZ (by omega)]at this
 ·have:=h.drop l.length;rwa [WC (by omega),fZ (by omega),aV]at this
theorem az9(h:SR P F J w){t:TypeId}{a v:AV}{x y:Value}(hs:VU P t J a v=some J')(hx:VR F a x)(hy:VR F v y):
 ∃w',(Instr.storeAt t x y).run P w=.ok () w'/\St P F J w F J' w':=by
 unfold VU at hs;split at hs
 ·next id i off=>
  split at hs
  ·next m et f hg=>
   split at hs
   ·next hc=>
    obtain⟨hlk,hst⟩:=hc;split at hs
    ·next size vs hsz hvs=>
     split at hs
     ·next m' hm'=>
      cases hs;simp only[VR]at hx;obtain⟨q,k,j,hq,hj,rfl⟩:=hx;obtain⟨xs,h1,h2,h3,h4,h5,h6,hsc,hS⟩:=MX h hg hq;rw[hsz]at h5;cases h5;obtain⟨gs,g1,g2,g3⟩:=UN hvs (yX hy);obtain⟨g,k1,k2⟩:=gB hm';simp only[Nd.den,h1,hj,g1]at k2;split at k2
      ·next hj0=>
       split at k2
       ·next u hu=>
        split at k2
        ·next C9=>
         obtain⟨z,hz,rfl⟩:=aZ.1 k2;obtain⟨p1,p2,p3,p4⟩:=GV.av1 hz g2 (hsc u (rC hu));have hfl:=aeX h2 hu (by omega) p2;have hvl:v.cells.length=gs.length:=by rw[g3.length,(yX hy).length]
         have hjl:j.toNat<xs.length:=(eU.1 hu).1;have hcl:(bI xs).length=xs.length*q.es:=by rw[bI,lS,Ox h2]
         have hle:j.toNat*q.es+off+v.cells.length<=(bI xs).length:=by rw[hcl,hvl];have:(j.toNat+1)*q.es<=xs.length*q.es:=rF _ hjl;rw[qM]at this;omega
         have hset:zG (bI xs) (j.toNat*q.es+off) v.cells=some ((bI xs).take (j.toNat*q.es+off)++v.cells++(bI xs).drop (j.toNat*q.es+off+v.cells.length)):=by unfold zG;rw[aj hle]
         have arZ:Ei P t (kE J id xs et) (.p id (j.toNat*q.es+off)) v=some ((kE J id xs et).put id (.cells ((bI xs).take (j.toNat*q.es+off)++v.cells++(bI xs).drop (j.toNat*q.es+off+v.cells.length)) et true true)):=by simp only[Ei,D6];rw[aj ⟨hlk,hst,ZI hvs⟩,hset];rfl
         obtain⟨w',hrun,hstp⟩:=VE hS arZ (x:=.pointer (some ⟨q.bl,q.ba+j.toNat*q.es+off,none⟩)) (by simp only[VR];exact⟨q,hq,by rw[jL]⟩) hy;refine⟨w',hrun,(Qh hg hstp).right ?_ rfl rfl ?_⟩
         ·have hor:=hstp.rel.at (id:=id) (q:=q) (by rw[aA.get_put,aj rfl]) hq;have hnew:OR P F q w' (.vec m' et f):=by
           refine OR.xM (λe=>by subst e;exact(h.at hg hq).Wi) k1 ?_ ?_ hor ?_
           ·intro x hx;rcases acp hx with hx|rfl
            ·exact h2 x hx
            ·rw[p3,C9]
           ·intro x hx;rcases acp hx with hx|rfl
            ·exact hsc x hx
            ·exact p4
           ·intro us hus;have e1:bI (xs.set j.toNat z)=(bI xs).take (j.toNat*q.es+off)++dH gs++(bI xs).drop (j.toNat*q.es+off+gs.length):=by unfold bI;rw[hfl,Ht,Ht,TA,Tz]
            rw[e1,<-hvl];obtain⟨u1,u2,rfl,q1,q2⟩:=aC.split hus;obtain⟨u3,u4,rfl,q3,q4⟩:=aC.split q1;obtain⟨gs',g1',_,g3'⟩:=UN hvs q4;rw[g1]at g1';cases g1';exact(q3.append ((ou _ _).1 g3')).append q2
          have hg2:=aA.get_put (kE J id xs et) id id (.cells ((bI xs).take (j.toNat*q.es+off)++v.cells++(bI xs).drop (j.toNat*q.es+off+v.cells.length)) et true true);rw[aj rfl]at hg2;have:=hstp.rel.swap (o':=.vec m' et f) hg2 rfl (.inl ⟨q,hq,hnew⟩);refine this.sub (λid' o ho=>?_) (bV _);unfold kE;rw[aA.get_put]at ho⊢;split at ho
          ·next e=>rw[aj e];exact ho
          ·next e=>rw[ah e,aA.get_put,ah e,aA.get_put,ah e];exact ho
         ·intro k' u' hk ho;rw[aA.get_put]at hk⊢;split at hk
          ·next e=>rw[aj e];exact⟨_,rfl,rfl⟩
          ·next e=>
           rw[ah e];unfold kE;rw[aA.get_put,ah e];exact⟨u',hk,ho⟩
        ·cases k2
       ·cases k2
      ·cases k2
     ·cases hs
    ·cases hs
   ·cases hs
  ·cases hs
 ·cases hs
def Env.ghost(F:Env)(id:Nat):Env:=⟨F.pl,F.ro,λk=>Nat.beq k id ||F.gh k⟩
theorem St.ghost(h:SR P F J w){τ:aA}{m et:Nat}{f:Bool}(hv:aH.val m=some (.l []))(hl:τ.lock=J.lock)(hn:τ.next=J.next)(hsub:∀k o,τ.get k=some o->J.get k=some o):
 St P F J w (F.ghost J.next) (τ.new (.vec m et f)) w:=by
 have hle:F.le (F.ghost J.next):=⟨λ_ _ h=>h,λ_ _ h=>h,λid hg=>by simp[Env.ghost,hg]⟩
 have get:∀k o,(τ.new (.vec m et f)).get k=some o->(k=J.next/\o=.vec m et f)\/(k≠J.next/\J.get k=some o):=by
  intro k o hk;rw[aA.oK,hn]at hk;split at hk
  ·next e=>cases hk;exact .inl ⟨e,rfl⟩
  ·next e=>exact .inr ⟨e,hsub k o hk⟩
 have pl:∀k,(F.ghost J.next) k=F k:=λ_=>rfl;have none_:∀k q,k=J.next->F k=some q->False:=λk q e hq=>by have:=h.dom k q hq;omega
 refine⟨hle,⟨h.mg,λid q hq=>?_,λid o ho=>?_,λid hg=>?_,λid o id' o' q q' a1 a2 a3 a4 a5 a6=>?_,h.iT,λid o q a1 a2 a3=>?_,λp hp=>(h.tabs p hp).mono hle⟩,bV _,λ_ _ _=>rfl,λid o q a1 a2 a3 a4=>?_,rfl,rfl,rfl,hl,?_,?_,λ_ h=>.inl h⟩
 ·have:=h.dom id q hq;show id<τ.next+1;omega
 ·rcases get id o ho with⟨rfl,rfl⟩|⟨_,h2⟩
  ·exact .inr ⟨by simp[Env.ghost],m,et,f,rfl,hv⟩
  ·exact(h.live id o h2).mono hle
 ·have hg':(Nat.beq id J.next ||F.gh id)=true:=hg;rw[nO]at hg';rcases hg' with hg'|hg'
  ·have e:=bD hg';subst e;refine⟨?_,by show J.next<τ.next+1;omega⟩;rw[pl];cases hq:F J.next with
   |none=>rfl
   |some q=>exact absurd (h.dom _ q hq) (by omega)
  ·have:=h.jH id hg';exact⟨this.1,by show id<τ.next+1;omega⟩
 ·rcases get id o a1 with⟨e,_⟩|⟨_,h2⟩
  ·exact(none_ id q e a5).elim
  ·rcases get id' o' a3 with⟨e,_⟩|⟨_,h3⟩
   ·exact(none_ id' q' e a6).elim
   ·exact h.sep id o id' o' q q' h2 a2 h3 a4 a5 a6
 ·rcases get id o a1 with⟨e,_⟩|⟨_,h2⟩
  ·exact(none_ id q e a3).elim
  ·exact h.kN id o q h2 a2 a3
 ·rcases get id o a1 with⟨e,_⟩|⟨_,h2⟩
  ·exact(none_ id q e a4).elim
  ·exact .inr ⟨id,o,q,h2,a2,a3,a4,rfl⟩
 ·show J.next<=τ.next+1;omega
 ·rintro id (⟨q,hq⟩|hg)
  ·exact .inl (.inl ⟨q,hq⟩)
  ·have hg':(Nat.beq id J.next ||F.gh id)=true:=hg;rw[nO]at hg';rcases hg' with hg'|hg'
   ·have e:=bD hg';right;show J.next<=id/\id<τ.next+1;omega
   ·exact .inl (.inr hg')
theorem yB:∀(f:Nat){m n:Nat}{xs ys:Q1},uZ f m n=true->aH.val m=some (.l xs)->aH.val n=some (.l ys)->xs.length=ys.length
 |0,m,n,xs,ys,h,h1,h2=>by have:=bD h;subst this;rw[h1]at h2;cases h2;rfl
 |f+1,m,n,xs,ys,h,h1,h2=>by
  simp only[uZ,nO]at h;rcases h with h|h
  ·have:=bD h;subst this;rw[h1]at h2;cases h2;rfl
  ·split at h
   ·next z o a i vs hn=>
    obtain⟨g,g1,g2⟩:=aH.qE m _ hn (by simp);rw[h1]at g1;cases g1;simp only[Nd.den]at g2;split at g2
    ·next zs k j gs e1 e2 e3=>
     split at g2
     ·split at g2
      ·split at g2
       ·obtain⟨y,_,e⟩:=aZ.1 g2;cases e;rw[F8];exact yB f h e1 h2
       ·cases g2
      ·cases g2
     ·cases g2
    ·cases g2
   ·next a b hn=>
    obtain⟨g,g1,g2⟩:=aH.qE m _ hn (by simp);rw[h1]at g1;cases g1;simp only[Nd.den]at g2;split at g2
    ·next zs us e1 e2=>
     split at g2
     ·next hl=>cases g2;rw[hl];exact yB f h e1 h2
     ·cases g2
    ·cases g2
   ·cases h
theorem ayV:∀(f:Nat){m n:Nat}{g:GV}{ys:Q1},uZ f m n=true->aH.val m=some g->aH.val n=some (.l ys)->∃xs,g=.l xs
 |0,m,n,g,ys,h,h1,h2=>by have:=bD h;subst this;rw[h1]at h2;cases h2;exact⟨_,rfl⟩
 |f+1,m,n,g,ys,h,h1,h2=>by
  simp only[uZ,nO]at h;rcases h with h|h
  ·have:=bD h;subst this;rw[h1]at h2;cases h2;exact⟨_,rfl⟩
  ·split at h
   ·next z o a i vs hn=>
    obtain⟨g',g1,g2⟩:=aH.qE m _ hn (by simp);rw[h1]at g1;cases g1;simp only[Nd.den]at g2;split at g2
    ·split at g2
     ·split at g2
      ·split at g2
       ·obtain⟨y,_,e⟩:=aZ.1 g2;exact⟨_,e.symm⟩
       ·cases g2
      ·cases g2
     ·cases g2
    ·cases g2
   ·next a b hn=>
    obtain⟨g',g1,g2⟩:=aH.qE m _ hn (by simp);rw[h1]at g1;cases g1;simp only[Nd.den]at g2;split at g2
    ·split at g2
     ·cases g2;exact⟨_,rfl⟩
     ·cases g2
    ·cases g2
   ·cases h
theorem EJ{agg:Bool}{size:Nat}(h1:agg=false->size=1):∀(n:Nat){cs:Q3}{ns:Q2}{vs:Q6},elemsOf agg size n cs=some ns->aC F cs vs->cs.length=n*size->
 ∃gs,valsOf aH.val ns=some gs/\gs.length=n/\aC F (bI gs) vs/\cs.all AV.nH=true/\∀x∈gs,x.cells.length=size/\x.cells.all GV.scalar=true
 |0,cs,ns,vs,h,hv,hl=>by simp only[elemsOf,aW]at h;subst h;have:cs=[]:=jw (by simpa using hl);subst this;exact⟨[],rfl,rfl,by simpa[bI,dH]using hv,rfl,by simp⟩
 |n+1,cs,ns,vs,h,hv,hl=>by
  simp only[elemsOf]at h;rw[qM,Gh]at hl;split at h
  ·next a r ha hr=>
   cases h;obtain⟨gs,k1,k2,k3,k4,k5⟩:=EJ h1 n hr (hv.drop size) (by simp;omega);have hcs:cs=cs.take size++cs.drop size:=(JL _ _).symm;have hvs:vs=vs.take size++vs.drop size:=(JL _ _).symm;cases agg with
   |true=>
    simp only[if_true]at ha;have hagg:VR F (.agg (cs.take size)) (.agg ⟨vs.take size⟩):=by simp only[VR];exact⟨_,rfl,hv.take size⟩
    obtain⟨l,gl,e1,e2,e3,e4,e5⟩:=J3 ha hagg;cases e1;refine⟨.g gl::gs,by simp only[valsOf,e3,k1],by simp[k2],?_,?_,?_⟩
    ·have:bI (.g gl::gs)=dH gl++bI gs:=by unfold bI;rw[jC,Ht];rfl
     rw[this,hvs];refine aC.append ?_ k3;simp only[GR]at e5;obtain⟨us,eu,hu⟩:=e5;cases eu;exact(ou _ _).1 hu
    ·rw[hcs,ab6,aK];refine⟨?_,k4⟩;unfold Ej at ha;simp only at ha;split at ha
     ·next ns hns=>exact ZI hns
     ·cases ha
    ·intro x hx;rcases bG.1 hx with rfl|hx
     ·exact⟨by show gl.length=size;rw[e2,kF];omega,e4⟩
     ·exact k5 x hx
   |false=>
    have:=h1 rfl;subst this;simp only[iO,if_false]at ha;cases cs with
    |nil=>simp at hl
    |cons c cs=>
     simp only[WH,yQ]at ha;simp only[aC]at hv;obtain⟨x,xs,rfl,hx,hxs⟩:=hv;obtain⟨g,e1,e2,e3⟩:=lF ha hx;refine⟨g::gs,by simp only[valsOf,e1,k1],by simp[k2],?_,?_,?_⟩
     ·have:bI (g::gs)=dH g.cells++bI gs:=by unfold bI;rw[jC,Ht]
      rw[this,GV.Jd e2];simp only[dH,bC,aV];exact aC.cons ((kR _ _).1 e3) (by simpa using k3)
     ·simp only[qK,aK];exact⟨by cases c<;>simp[iQ]at ha<;>rfl,by simpa using k4⟩
     ·intro x hx;rcases bG.1 hx with rfl|hx
      ·rw[GV.Jd e2];exact⟨rfl,by simp[e2]⟩
      ·exact k5 x hx
  ·cases h
theorem as7(h:SR P F J w){e:TypeId}{x:AV}{b size:Nat}{u:Value}{t1 e':TypeId}{xs:Q1}(hl:listOf P J e x=some b)(hx:VR F x u)(ht:P.underlying t1=some (.slice e'))(hn:sizeT P e=some size)(hv:aH.val b=some (.l xs))(hs:xs.all (GV.fC size)=true):
 ∃ys,Src P size t1 u xs.length ys w/\aC F (bI xs) ys:=by
 have hT:EX P t1=true:=by unfold EX;rw[ht]
 have hsz:∀z∈xs,z.cells.length=size/\z.cells.all GV.scalar=true:=by intro z hz;rw[List.all_eq_true]at hs;have:=hs z hz;unfold GV.fC at this;rw[aK]at this;exact⟨Nat.eq_of_beq_eq_true this.1,this.2⟩
 have hone:(bI xs).all AV.nH=true:=by unfold bI;refine YF ?_;rw[List.all_eq_true];intro g hg;obtain⟨z,hz,hgz⟩:=WQ.1 hg;exact List.all_eq_true.1 (hsz z hz).2 g hgz
 unfold listOf at hl;split at hl
 ·next n=>
  cases hl;simp only[VR]at hx;obtain⟨g,h1,h2,h3⟩:=hx;rw[hv]at h1;cases h1;have hsrc:yE J size (.ro (dH xs))=some (xs.length,bI xs):=by simp only[yE];rw[aj,lS,YE];rfl;rw[List.all_eq_true];intro a ha;rw[vZ]at ha;obtain⟨z,hz,rfl⟩:=qj.1 ha;rw[KO,lS,(hsz z hz).1];simp
  exact src_ok h hT hsrc ((kR (.l xs) u).1 h3) hone
 ·obtain⟨g,h1,h2⟩:=gB hl;rw[hv]at h1;cases h1;simp only[Nd.den,valsOf,gI,aW,GV.l.injEq]at h2;subst h2;exact src_ok h hT (size:=size) (n:=0) (l:=[]) rfl hx rfl
 ·next id n=>
  split at hl
  ·next m et _ hg=>
   split at hl
   ·next hc=>
    cases hl;rw[aK]at hc;simp only[VR]at hx;obtain⟨ys,h1,hx⟩:=hx;have hlen:=yB 100 hc.2 hv h1;rcases hx with⟨q,hq,hle,rfl⟩|⟨_,rfl,rfl⟩
    ·obtain⟨xs',k1,k2,k3,k4,k5,k6,_,hS⟩:=MX h hg hq;rw[hv]at k1;cases k1;have e:=bD hc.1;subst e;rw[hn]at k5;cases k5;have hsrc:yE (kE J id xs e) q.es (.sl id 0 xs.length none)=some (xs.length,bI xs):=by
      simp only[yE,D6];have:takeN (bI xs) 0 (xs.length*q.es)=some (bI xs):=by
       have hl:(bI xs).length=xs.length*q.es:=by rw[bI,lS,Ox k2]
       unfold takeN;rw[dD,jZ (by omega),aj hl]
      rw[this];rfl
     rw[<-hlen]at hle⊢;exact src_ok hS hT hsrc (by simp only[VR];exact⟨q,hq,by simpa using hle,by simp⟩) hone
    ·have:xs=[]:=jw (by simpa using hlen);subst this;exact src_ok h hT (a:=.fV) (size:=size) (n:=0) (l:=[]) rfl (by simp only[VR]) rfl
   ·cases hl
  ·cases hl
 ·next id off len cap=>
  split at hl
  ·next c et um opn size' agg hg hn' ha=>
   rw[hn]at hn';cases hn';split at hl
   ·next hc=>
    rw[aK,nO,aK]at hc;split at hl
    ·next cs hcs=>
     split at hl
     ·next ns hns=>
      have hagg:agg=false->size=1:=by
       intro e;subst e;rcases hc.2 with h1|h1
       ·simp at h1
       ·exact bD h1
      obtain⟨g,g1,g2⟩:=gB hl;rw[hv]at g1;cases g1;simp only[VR]at hx;obtain⟨q,hq,hle,rfl⟩:=hx;obtain⟨q',hq',ws,elem,fr,hb,rr⟩:=h.obj _ _ hg rfl;rw[hq]at hq';cases hq';have hlc:=(qV hcs).2.1;obtain⟨gs,k1,k2,k3,k4,_⟩:=EJ (F:=F) hagg len hns (rr.yF hcs) hlc;simp only[Nd.den,k1,gI,aW,GV.l.injEq]at g2;subst g2;obtain⟨ys,j1,j2⟩:=src_ok h hT (size:=size) (n:=len) (l:=cs) (a:=.sl id off len cap) (by simp only[yE,hg,hcs,gI]) (by simp only[VR];exact⟨q,hq,hle,rfl⟩) k4;obtain⟨gs',k1',k2',Ud,_⟩:=EJ (F:=F) hagg len hns j2 hlc;rw[k1]at k1';cases k1';rw[k2];exact⟨ys,j1,Ud⟩
     ·cases hl
    ·cases hl
   ·cases hl
  ·cases hl
 ·cases hl
theorem adh(s:Q0):bI (bT s)=vT s:=by
 unfold bI bT vT;induction s with
 |nil=>rfl
 |cons c s ih=>simp only[iD,jC,GV.cells,bC,aV,dH,kC,ih]
