/- Values that are named by nodes: numbers, texts, truth values, parts of what nobody changes. -/
import Derived.Test.YtnlegpmfkopalaaGreatDoorAbsC
import Derived.Laws.StructEq
namespace Go.aN
set_option linter.unusedSimpArgs false
noncomputable section
variable [aF]
set_option linter.unusedSectionVars false
set_option linter.unusedVariables false
variable {P:Program} {η:Env} {σ σ':au} {w:World}
mutual
def jL:GV->AV
 | .b x=>.b x
 | .i k n=>.i k n
 | .s x=>.s x
 | .g cs=>.agg (dF cs)
 | .l xs=>.ro (dF xs)
def dF:List GV->List AV
 | []=>[]
 | a::l=>jL a::dF l
end
theorem uf:∀l:List GV,dF l=l.map jL
 | []=>rfl
 | a::l=>by simp [dF,uf l]
theorem kJ (l:List GV):(dF l).length=l.length:=by rw [uf];simp
theorem Kq (l:List GV) (k:Nat):(dF l)[k]? = (l[k]?).map jL:=by rw [uf];simp
mutual
theorem jU:∀ (g:GV) (v:Value),GR η.ro g v↔VR η (jL g) v
 | .b _,_=>by simp only [GR,VR,jL]
 | .i _ _,_=>by simp only [GR,VR,jL]
 | .s _,_=>by simp only [GR,VR,jL]
 | .g cs,v=>by
   simp only [GR,VR,jL];constructor
   ·rintro ⟨vs,e,h⟩;exact ⟨vs,e,(l9 cs vs).1 h⟩
   ·rintro ⟨vs,e,h⟩;exact ⟨vs,e,(l9 cs vs).2 h⟩
 | .l xs,v=>by
   simp only [GR,VR,jL,kJ];have hn:dF xs=[]↔xs=[]:=by cases xs<;>simp [dF]
   rw [hn];constructor
   ·rintro (h | ⟨bl,off,c,ys,sz,e,hc,h,h1,h2⟩)
    ·exact .inl h
    ·exact .inr ⟨bl,off,c,ys,sz,e,hc,(l9 xs ys).1 h,h1,λhne=>h2 (λe=>hne (hn.2 e))⟩
   ·rintro (h | ⟨bl,off,c,ys,sz,e,hc,h,h1,h2⟩)
    ·exact .inl h
    ·exact .inr ⟨bl,off,c,ys,sz,e,hc,(l9 xs ys).2 h,h1,λhne=>h2 (λe=>hne (hn.1 e))⟩
theorem l9:∀ (l:List GV) (vs:List Value),aO η.ro l vs↔ay η (dF l) vs
 | [],_=>by simp only [aO,ay,dF]
 | a::l,vs=>by
   simp only [aO,ay,dF];constructor
   ·rintro ⟨x,xs,e,h1,h2⟩;exact ⟨x,xs,e,(jU a x).1 h1,(l9 l xs).1 h2⟩
   ·rintro ⟨x,xs,e,h1,h2⟩;exact ⟨x,xs,e,(jU a x).2 h1,(l9 l xs).2 h2⟩
end
theorem Ht (g:GV):(jL g).cells=dF g.cells:=by cases g<;>simp [jL,dF,AV.cells,GV.cells]
theorem Ui:∀l:List GV,(dF l).flatMap AV.cells=dF (l.flatMap GV.cells)
 | []=>rfl
 | a::l=>by
   simp only [dF,jl,Ui l,Ht];rw [uf,uf,uf,xP]
theorem GR.cells {g:GV} {v:Value} (h:GR η.ro g v):ay η (dF g.cells) v.cells.toList:=by rw [<- Ht];exact wY ((jU g v).1 h)
theorem GR.Zo {g:GV} {v:Value} (h:GR η.ro g v):g.cells.length=v.cells.size:=by
 have:=h.cells.length;rw [kJ] at this;simpa using this
theorem GV.Fj {g:GV} (h:g.scalar=true):g.cells=[g]:=by cases g<;>first | rfl | (cases h)
theorem ajk {g:GV} (h:g.scalar=true):(jL g).lM=true:=by cases g<;>first | rfl | (cases h)
theorem Uj:∀ {l:List GV},l.all GV.scalar=true->(dF l).all AV.lM=true
 | [],_=>rfl
 | a::l,h=>by
   simp only [rF,aI] at h;simp only [dF,rF,aI];exact ⟨ajk h.1,Uj h.2⟩
theorem aO.length {ro:Nat->Option Obj}:∀ {l:List GV} {vs:List Value},aO ro l vs->l.length=vs.length
 | [],vs,h=>by simp only [aO] at h;subst h;rfl
 | a::l,vs,h=>by
   simp only [aO] at h;obtain ⟨x,xs,rfl,_,h2⟩:=h;simp [aO.length h2]
theorem aO.at {ro:Nat->Option Obj}:∀ {l:List GV} {vs:List Value},aO ro l vs->∀ {k:Nat} {a:GV},l[k]? = some a->∃x,vs[k]? = some x/\GR ro a x
 | [],vs,h,k,a,hk=>by simp at hk
 | b::l,vs,h,k,a,hk=>by
   simp only [aO] at h;obtain ⟨x,xs,rfl,h1,h2⟩:=h;cases k with
   | zero=>simp at hk;subst hk;exact ⟨x,by simp,h1⟩
   | succ k=>obtain ⟨y,hy,hv⟩:=aO.at h2 (by simpa using hk);exact ⟨y,by simpa using hy,hv⟩
theorem fK {x:Nd} {n:Nat} (h:eH x=some n):∃g,aF.val n=some g/\x.den aF.I aF.val=some g:=by
 obtain ⟨h1,h2⟩:=aiK h;exact aF.oI n x h1 h2
theorem ags {m m':Nat} (h:Td m m'=true):(∃k a b,aF.val m=some (.i k a)/\aF.val m'=some (.i k b)/\a≠b)\/(∃a b,aF.val m=some (.s a)/\aF.val m'=some (.s b)/\a≠b):=by
 unfold Td at h;split at h
 ·next k a k' b h1 h2=>
  rw [aI] at h;have:=O4 h.1;subst this;obtain ⟨g,e1,e2⟩:=aF.oI _ _ h1 (by simp);obtain ⟨g',e3,e4⟩:=aF.oI _ _ h2 (by simp);simp only [Nd.den,aT] at e2 e4;subst e2;subst e4;refine .inl ⟨k,a,b,e1,e3,λe=>?_⟩;subst e;rw [(abj (a:=a) (b:=a)).2 rfl] at h;simp at h
 ·next a b h1 h2=>
  obtain ⟨g,e1,e2⟩:=aF.oI _ _ h1 (by simp);obtain ⟨g',e3,e4⟩:=aF.oI _ _ h2 (by simp);simp only [Nd.den,aT] at e2 e4;subst e2;subst e4;refine .inr ⟨a,b,e1,e3,λe=>?_⟩;subst e;rw [(Zd (l:=a) (m:=a)).2 rfl] at h;simp at h
 ·cases h
theorem Vu {n m:Nat}:∀ {l:List (Nat×Bool)},(∀p∈l,aF.val p.1=some (.b p.2))->Cm n m l=true->(∃k a b,aF.val n=some (.i k b)/\aF.val m=some (.i k a)/\a≠b)\/(∃a b,aF.val n=some (.s b)/\aF.val m=some (.s a)/\a≠b)
 | [],_,h=>by simp [Cm] at h
 | p::l,hl,h=>by
   simp only [Cm,lS] at h;rcases h with h | h
   ·cases hp:p.2 with
    | false=>rw [hp] at h;simp at h
    | true=>
      rw [hp] at h;simp only [cond_true] at h;split at h
      ·next n' m' hn=>
       rw [aI] at h;have e:=bG h.1;subst e;obtain ⟨g,e1,e2⟩:=aF.oI _ _ hn (by simp);have e3:=hl p (by simp);rw [hp,e1] at e3;cases e3;simp only [Nd.den] at e2;rcases ags h.2 with ⟨k,a,b,q1,q2,q3⟩ | ⟨a,b,q1,q2,q3⟩
       ·rw [q2] at e2
        split at e2
        ·next x y hx hy=>
         cases hy;cases x<;>simp only [gu,bU,reduceCtorEq] at e2
         split at e2
         ·next e4=>
          subst e4;simp only [aT,GV.b.injEq,beq_iff_eq] at e2;subst e2;exact .inl ⟨_,a,_,hx,q1,q3⟩
         ·cases e2
        ·cases e2
       ·rw [q2] at e2
        split at e2
        ·next x y hx hy=>
         cases hy;cases x<;>simp only [gu,uH,reduceCtorEq] at e2
         simp only [aT,GV.b.injEq,beq_iff_eq] at e2;subst e2;exact .inr ⟨a,_,hx,q1,q3⟩
        ·cases e2
      ·cases h
   ·exact Vu (λq hq=>hl q (by simp [hq])) h
theorem ZA {c n m:Nat} {b:Bool}:∀ {l:List (Nat×Bool)},(∀p∈l,aF.val p.1=some (.b p.2))->GK c n m l=some b->∃op x y,rY op=c/\aF.val n=some x/\aF.val m=some y/\gu op x y=some (.b b)
 | [],_,h=>by simp [GK] at h
 | p::l,hl,h=>by
   have ih:=λh=>ZA (c:=c) (n:=n) (m:=m) (b:=b) (l:=l) (λq hq=>hl q (by simp [hq])) h;simp only [GK] at h;split at h
   ·next op n' m' hn=>
    cases hc:Nat.beq n n'&&Nat.beq m m'&&Nat.beq (rY op) c with
    | false=>rw [hc] at h;exact ih h
    | true=>
      rw [hc] at h;simp only [cond_true,aT] at h;rw [aI,aI] at hc;have e1:=bG hc.1.1;have e2:=bG hc.1.2;have e3:=bG hc.2;subst e1;subst e2;obtain ⟨g,g1,g2⟩:=aF.oI _ _ hn (by simp);have g3:=hl p (by simp);rw [g1,h] at g3;cases g3;simp only [Nd.den] at g2;split at g2
      ·next x y hx hy=>exact ⟨op,x,y,e3,hx,hy,g2⟩
      ·cases g2
   ·exact ih h
theorem agr {op op':BinOp} {x y g:GV} {r:Bool} (h:Bj op=some op') (h1:gu op' x y=some (.b r)) (h2:gu op x y=some g):g=.b (!r):=by
 cases x with
 | i k a=>
   cases y with
   | i k' b=>
     by_cases e:k=k'
     ·subst e
      unfold Bj at h;split at h<;>cases h<;>simp only [gu,bU,if_true,aT,GV.b.injEq] at h1 h2<;>rw [<- h1,<- h2]<;>congr 1<;>rw [pJ]<;>simp<;>omega
     ·unfold Bj at h
      split at h<;>cases h<;>simp only [gu,ah e] at h1<;>cases h1
   | _=>unfold Bj at h;split at h<;>cases h<;>simp [gu] at h1
 | s a=>
   cases y with
   | s b=>
     unfold Bj at h;split at h<;>cases h<;>simp only [gu,uH,aT,GV.b.injEq] at h1 h2<;>rw [<- h1,<- h2]<;>simp
   | _=>unfold Bj at h;split at h<;>cases h<;>simp [gu] at h1
 | _=>unfold Bj at h;split at h<;>cases h<;>simp [gu] at h1
theorem Xa {op:BinOp} {n m:Nat} {b:Bool} {g:GV} (h:Ll op n m=some b) (hd:(Nd.bin op n m).den aF.I aF.val=some g):g=.b b:=by
 unfold Ll at h;split at h
 ·next op' ho=>
  obtain ⟨r,h1,rfl⟩:=aW.1 h;obtain ⟨op2,x,y,e,hx,hy,h2⟩:=ZA (λp hp=>aF.yw p.1 p.2 hp) h1;have:=acH.1 e;subst this;simp only [Nd.den,hx,hy] at hd;exact agr ho h2 hd
 ·cases h
theorem an4 {x:Nd} {b:Bool} {g:GV} (h:Xb x=some b) (hd:x.den aF.I aF.val=some g):g=.b b:=by
 unfold Xb at h;split at h
 ·next n m=>
  cases hk:Cm n m fV.dec with
  | false=>rw [hk] at h;simp only [cond_false] at h;exact Xa h hd
  | true=>
    rw [hk] at h;cases h;rcases Vu (λp hp=>aF.yw p.1 p.2 hp) hk with ⟨k,a,b,q1,q2,q3⟩ | ⟨a,b,q1,q2,q3⟩
    ·simp only [Nd.den,q1,q2,gu,bU,if_true,aT] at hd
     rw [<- hd];simp [Ne.symm q3]
    ·simp only [Nd.den,q1,q2,gu,uH,aT] at hd
     rw [<- hd];simp [Ne.symm q3]
 ·next n m=>
  cases hk:Cm n m fV.dec with
  | false=>rw [hk] at h;simp only [cond_false] at h;exact Xa h hd
  | true=>
    rw [hk] at h;cases h;rcases Vu (λp hp=>aF.yw p.1 p.2 hp) hk with ⟨k,a,b,q1,q2,q3⟩ | ⟨a,b,q1,q2,q3⟩
    ·simp only [Nd.den,q1,q2,gu,bU,if_true,aT] at hd
     rw [<- hd];simp [Ne.symm q3]
    ·simp only [Nd.den,q1,q2,gu,uH,aT] at hd
     rw [<- hd];simp [Ne.symm q3]
 ·exact Xa h hd
 ·cases h
theorem kP {x:Nd} {r:AV} (h:jG x=some r):∃n g,aF.val n=some g/\x.den aF.I aF.val=some g/\∀v,g.scalar=true->GR η.ro g v->VR η r v:=by
 unfold jG at h;split at h
 ·next n hn=>
  obtain ⟨g,h1,h2⟩:=fK hn;refine ⟨n,g,h1,h2,λv hs hv=>?_⟩;split at h
  ·next b hb=>
   cases h;have:=aF.yw n b (JZ hb);rw [h1] at this;cases this;simp only [GR] at hv;simp only [VR];exact hv
  ·split at h
   ·next b hb=>
    cases h;have:=an4 hb h2;subst this;simp only [GR] at hv;simp only [VR];exact hv
   ·cases h
    simp only [VR];exact ⟨g,h1,hs,hv⟩
 ·cases h
theorem DX {a:Option AV} {r:AV} (h:dB a=some r):∃v,a=some v/\∀ (η:Env) (x:Value),VR η v x->VR η r x:=by
 unfold dB at h;split at h
 ·next n=>
  split at h
  ·next b hb=>
   cases h;refine ⟨_,rfl,λη x hx=>?_⟩;have hd:=aF.yw n b (JZ hb);simp only [VR] at hx;obtain ⟨g,h1,_,h2⟩:=hx;rw [hd] at h1;cases h1;simp only [GR] at h2;subst h2;simp only [VR]
  ·cases h
 ·exact ⟨r,h,λ_ _ h=>h⟩
theorem kK {a:AV} {n:Nat} {v:Value} (h:ig a=some n) (hv:VR η a v):∃g,aF.val n=some g/\g.scalar=true/\GR η.ro g v:=by
 cases a<;>simp only [ig,reduceCtorEq,aT] at h
 case nd m=>subst h;simpa only [VR] using hv
 case i k m=>obtain ⟨g,h1,h2⟩:=fK h;simp only [Nd.den,aT] at h2;subst h2;exact ⟨_,h1,rfl,by simpa only [VR,GR] using hv⟩
 case b x=>obtain ⟨g,h1,h2⟩:=fK h;simp only [Nd.den,aT] at h2;subst h2;exact ⟨_,h1,rfl,by simpa only [VR,GR] using hv⟩
 case s x=>obtain ⟨g,h1,h2⟩:=fK h;simp only [Nd.den,aT] at h2;subst h2;exact ⟨_,h1,rfl,by simpa only [VR,GR] using hv⟩
 case dO=>obtain ⟨g,h1,h2⟩:=fK h;simp only [Nd.den,valsOf,gI,aT] at h2;subst h2;exact ⟨_,h1,rfl,by simp only [VR] at hv;simp only [GR];exact .inl ⟨trivial,_,hv⟩⟩
theorem PW:∀ {l:List AV} {ns:List Nat} {vs:List Value},nodesOf l=some ns->ay η l vs->∃gs,valsOf aF.val ns=some gs/\gs.all GV.scalar=true/\aO η.ro gs vs
 | [],ns,vs,h,hv=>by simp only [nodesOf,aT] at h;subst h;simp only [ay] at hv;subst hv;exact ⟨[],rfl,rfl,by simp [aO]⟩
 | a::l,ns,vs,h,hv=>by
   simp only [nodesOf] at h;split at h
   ·next n r hn hr=>
    cases h;simp only [ay] at hv;obtain ⟨x,xs,rfl,h1,h2⟩:=hv;obtain ⟨g,g1,g2,g3⟩:=kK hn h1;obtain ⟨gs,k1,k2,k3⟩:=PW hr h2;exact ⟨g::gs,by simp only [valsOf,g1,k1],by simp [g2,k2],by simp only [aO];exact ⟨x,xs,rfl,g3,k3⟩⟩
   ·cases h
theorem Gn {a:AV} {n:Nat} {v:Value} (h:Ba a=some n) (hv:VR η a v):∃l gs,a=.agg l/\gs.length=l.length/\aF.val n=some (.g gs)/\gs.all GV.scalar=true/\GR η.ro (.g gs) v:=by
 unfold Ba at h;split at h
 ·next l=>
  split at h
  ·next ns hns=>
   simp only [VR] at hv;obtain ⟨vs,rfl,hvs⟩:=hv;obtain ⟨gs,g1,g2,g3⟩:=PW hns hvs;obtain ⟨g,h1,h2⟩:=fK h;simp only [Nd.den,g1,g2,if_true,aT] at h2;subst h2;exact ⟨l,gs,rfl,by rw [g3.length,hvs.length],h1,g2,by simp only [GR];exact ⟨vs,rfl,g3⟩⟩
  ·cases h
 ·cases h
theorem aon {op:BinOp} {t:TypeId} {x y:Operand} {k k':IntKind} {a b:Int} {w:World}:(eqGuard op t x y (.int k a) (.int k' b)).run P w=.ok () w:=by
 unfold eqGuard;cases op<;>rfl
theorem aoo {op:BinOp} {t:TypeId} {x y:Operand} {a b:ByteArray} {w:World}:(eqGuard op t x y (.string a) (.string b)).run P w=.ok () w:=by
 unfold eqGuard;cases op<;>rfl
theorem akk {op:BinOp} {t:TypeId} {k:IntKind} {a b:Int} {g:GV} (h1:op≠.shl) (h2:op≠.shr) (h:bU op k a b=some g):g.scalar=true/\∃z,(binOp op t (.int k a) (.int k b)).run P w=.ok z w/\GR η.ro g z:=by
 cases op<;>simp only [bU,reduceCtorEq] at h
 all_goals first | (exact absurd rfl h1) | (exact absurd rfl h2) | (cases h;done) | skip
 all_goals first
  | (cases h;refine ⟨rfl, ?_⟩;simp only [binOp,ne_eq,not_true_eq_false,if_false,Op.intArith,Op.intCmp,Op.intBits];exact ⟨_,rfl,by simp only [GR]⟩)
  | (split at h;cases h;cases h;next hb=>refine ⟨rfl, ?_⟩;simp only [binOp,ne_eq,not_true_eq_false,if_false,Op.intDiv,hb];exact ⟨_,rfl,by simp only [GR]⟩)
theorem adU {op:BinOp} {t:TypeId} {k k':IntKind} {a b:Int} {g:GV} (ho:op=.shl\/op=.shr) (h:jI op k a b=some g):g.scalar=true/\∃z,(binOp op t (.int k a) (.int k' b)).run P w=.ok z w/\GR η.ro g z:=by
 unfold jI at h;split at h
 ·cases h
 ·next hb=>
  rcases ho with rfl | rfl
  ·cases h;refine ⟨rfl, ?_⟩;simp only [binOp,Op.shift,ah hb];exact ⟨_,rfl,by simp only [GR]⟩
  ·cases h;refine ⟨rfl, ?_⟩;simp only [binOp,Op.shift,ah hb];exact ⟨_,rfl,by simp only [GR]⟩
theorem apR {op:BinOp} {t:TypeId} {a b:List UInt8} {g:GV} (h:uH op a b=some g):g.scalar=true/\∃z,(binOp op t (.string ⟨⟨a⟩⟩) (.string ⟨⟨b⟩⟩)).run P w=.ok z w/\GR η.ro g z:=by
 cases op<;>simp only [uH,reduceCtorEq] at h
 all_goals first | (cases h;done) | skip
 all_goals first | (cases h;refine ⟨rfl, ?_⟩;simp only [binOp,Op.stringOp,toList_mk];exact ⟨_,rfl,by simp only [GR]⟩) | skip
 split at h
 ·next hb=>
  cases h;have:¬ (((⟨⟨a⟩⟩:ByteArray).size+(⟨⟨b⟩⟩:ByteArray).size:Nat):Int) > IntKind.i64.max:=by rw [strSize,strSize];omega
  refine ⟨rfl, ?_⟩;simp only [binOp,Op.stringOp,ah this,YV];exact ⟨_,rfl,by simp only [GR]⟩
 ·cases h
theorem afG {op:BinOp} {t:TypeId} {x y:Operand} {g1 g2 g:GV} {u u':Value} (h:gu op g1 g2=some g) (h1:GR η.ro g1 u) (h2:GR η.ro g2 u') :
 g.scalar=true/\∃z,(do eqGuard op t x y u u';binOp op t u u':Sem Value).run P w=.ok z w/\GR η.ro g z:=by
 unfold gu at h;split at h
 ·next k a k' b=>
  simp only [GR] at h1 h2;subst h1;subst h2;simp only [aS,aon,aQ];split at h
  ·exact adU (.inl rfl) h
  ·exact adU (.inr rfl) h
  ·next hn1 hn2=>
   split at h
   ·next hk=>subst hk;exact akk hn1 hn2 h
   ·cases h
 ·next a b=>
  simp only [GR] at h1 h2;subst h1;subst h2;simp only [aS,aoo,aQ];exact apR h
 ·cases h
theorem aaj {t:TypeId} (hu:P.underlying t=some .bool) (a b:Bool):(Op.equal t (.bool a) (.bool b)).run P w=.ok (a==b) w:=by
 have H:∀n,(Op.equalIn (n+1) t (.bool a) (.bool b)).run P w=.ok (a==b) w:=λn=>by
  simp only [Op.equalIn,aS,aV hu,aQ,bC]
 exact H 9999
theorem afE {op:BinOp} {t:TypeId} {x y:Operand} {g1 g2 g:GV} {u u':Value} (hu:P.underlying t=some .bool) (h:Nv op g1 g2=some g) (h1:GR η.ro g1 u) (h2:GR η.ro g2 u') :
 g.scalar=true/\∃z,(do eqGuard op t x y u u';binOp op t u u':Sem Value).run P w=.ok z w/\GR η.ro g z:=by
 unfold Nv at h;split at h
 ·next a b=>
  simp only [GR] at h1 h2;subst h1;subst h2;split at h
  ·cases h;exact ⟨rfl,_,oQ (aaj hu a b) rfl rfl,by simp only [GR]⟩
  ·cases h;exact ⟨rfl,_,oU (aaj hu a b) rfl rfl,by simp only [GR]⟩
  ·cases h
 ·cases h
theorem aak {w:World} (d:Nat):∀ (fs:List Field) (k:Nat) (ks:List Nat) (xs ys:List Value) (gs hs:List GV) (r:Bool),IC P fs k=some ks->aO η.ro gs (xs.drop k)->aO η.ro hs (ys.drop k)->kX ks gs hs=some r->
 (Op.eqFields (d+1) ⟨xs⟩ ⟨ys⟩ fs).run P w=.ok r w
 | [],k,ks,xs,ys,gs,hs,r,hp,_,_,he=>by
   simp only [IC,aT] at hp;subst hp;cases gs with
   | cons g gs=>simp [kX] at he
   | nil=>
     cases hs with
     | cons g gs=>simp [kX] at he
     | nil=>simp only [kX,aT] at he;subst he;simp [Op.eqFields]
 | f::fs,k,ks,xs,ys,gs,hs,r,hp,hx,hy,he=>by
   simp only [IC] at hp;split at hp
   ·next hc=>
    rw [aI,uJ] at hc;obtain ⟨hn,ho⟩:=hc;have ho':=bG ho;split at hp
    ·next a ks' ht hp'=>
     cases hp;cases gs with
     | nil=>simp [kX] at he
     | cons g gs=>
     cases hs with
     | nil=>simp [kX] at he
     | cons g' hs=>
     simp only [aO] at hx hy;obtain ⟨u,us,hxe,hu,hus⟩:=hx;obtain ⟨u',us',hye,hu',aj7⟩:=hy;have hxk:xs[k]? = some u:=by rw [<- List.head?_drop,hxe];rfl
     have hyk:ys[k]? = some u':=by rw [<- List.head?_drop,hye];rfl
     have aj8:us=xs.drop (k+1):=by
      have:=qR (List.drop 1) hxe;simpa [oq] using this.symm
     have aj9:us'=ys.drop (k+1):=by
      have:=qR (List.drop 1) hye;simpa [oq] using this.symm
     have hagg:mX P f.type=some false:=by
      unfold WA at ht;unfold mX;split at ht<;>first | (next h=>rw [h]) | (cases ht)
     have hpart:∀ (zs:List Value) z,zs[k]? = some z->(part f.type ⟨zs⟩ f.offset).run P w=.ok z w:=by
      intro zs z hz;unfold part;simp only [aS,Fh hagg,aQ,gU,if_false];have:(⟨zs⟩:Array Value)[f.offset]? = some z:=by rw [ho'];simpa using hz
      simp only [this,bC]
     have hne:(f.name ≠ "_"):=by intro e;rw [e] at hn;simp at hn
     have fin:∀b r',(Op.equalIn (d+1) f.type u u').run P w=.ok b w->kX ks' gs hs=some r'->(Op.eqFields (d+1) ⟨xs⟩ ⟨ys⟩ (f::fs)).run P w=.ok (b&&r') w:=by
      intro b r' hb hr';have hrec:=aak (w:=w) d fs (k+1) ks' xs ys gs hs r' hp' (by rw [<- aj8];exact hus) (by rw [<- aj9];exact aj7) hr';simp only [Op.eqFields,aj hne,aS,hpart _ _ hxk,hpart _ _ hyk,aQ,hb];cases b with
      | true=>simpa using hrec
      | false=>simp
     unfold WA at ht;split at ht
     ·next kk hk=>
      cases ht;cases g<;>cases g'<;>simp only [kX,reduceCtorEq] at he
      split at he
      ·next hkk=>
       subst hkk;obtain ⟨r',hr',rfl⟩:=aW.1 he;simp only [GR] at hu hu';subst hu;subst hu';exact fin _ _ (run_equalIn_int w d _ _ _ _ _ hk) hr'
      ·cases he
     ·next hk=>
      cases ht;cases g<;>cases g'<;>simp only [kX,reduceCtorEq] at he
      obtain ⟨r',hr',rfl⟩:=aW.1 he;simp only [GR] at hu hu';subst hu;subst hu';refine fin _ _ ?_ hr';rw [run_equalIn_string w d _ _ _ hk,toList_mk,toList_mk]
     ·next hk=>
      cases ht;cases g<;>cases g'<;>simp only [kX,reduceCtorEq] at he
      obtain ⟨r',hr',rfl⟩:=aW.1 he;simp only [GR] at hu hu';subst hu;subst hu';exact fin _ _ (run_equalIn_bool' w d _ _ _ hk) hr'
     ·cases ht
    ·cases hp
   ·cases hp
theorem afF {op:BinOp} {t:TypeId} {x y:Operand} {fs:Array Field} {ks:List Nat} {g1 g2 g:GV} {u u':Value} (hu:P.underlying t=some (.struct fs)) (hst:P.stoodInHeld t=false) (heg:P.eqGuardType P.depth t=false) (hp:IC P fs.toList 0=some ks)
 (h:Gu op ks g1 g2=some g) (h1:GR η.ro g1 u) (h2:GR η.ro g2 u') :
 g.scalar=true/\∃z,(do eqGuard op t x y u u';binOp op t u u':Sem Value).run P w=.ok z w/\GR η.ro g z:=by
 unfold Gu at h;split at h
 ·next a b=>
  simp only [GR] at h1 h2;obtain ⟨vs,rfl,h1⟩:=h1;obtain ⟨us,rfl,h2⟩:=h2;have hfo:P.fieldsOf t=fs:=by unfold Program.fieldsOf;rw [hu]
  have hun:P.underlying t=some (.struct (P.fieldsOf t)):=by rw [hfo];exact hu
  have key:∀r,kX ks a b=some r->(Op.equalIn 10000 t (.agg ⟨vs⟩) (.agg ⟨us⟩)).run P w=.ok r w:=by
   intro r hr;rw [run_equalIn_agg w 9999 t _ _ hun hst,hfo];exact aak (η:=η) 9998 fs.toList 0 ks vs us a b r hp (by simpa using h1) (by simpa using h2) hr
  split at h
  ·obtain ⟨r,hr,rfl⟩:=aW.1 h
   refine ⟨rfl,.bool r, ?_,by simp only [GR]⟩;simp only [aS,run_eqGuard_agg w .eql t x y _ _ heg,aQ,run_eql_struct,key r hr]
  ·obtain ⟨r,hr,rfl⟩:=aW.1 h
   refine ⟨rfl,.bool (!r), ?_,by simp only [GR]⟩;simp only [aS,run_eqGuard_agg w .neq t x y _ _ heg,aQ,run_neq_struct,key r hr]
  ·cases h
 ·cases h
theorem apZ {op:BinOp} {t:TypeId} {x y:Operand} {a b v:AV} {u u':Value} (hs:QF P op t a b=some v) (hx:VR η a u) (hy:VR η b u') :
 ∃z,(do eqGuard op t x y u u';binOp op t u u':Sem Value).run P w=.ok z w/\VR η v z:=by
 unfold QF at hs
 have two:∀ {m n:Nat} {nd:Nd},jG nd=some v->(∀g,nd.den aF.I aF.val=some g->g.scalar=true/\∃z,(do eqGuard op t x y u u';binOp op t u u':Sem Value).run P w=.ok z w/\GR η.ro g z)->
  ∃z,(do eqGuard op t x y u u';binOp op t u u':Sem Value).run P w=.ok z w/\VR η v z:=by
  intro m n nd hm hd;obtain ⟨_,g,_,h2,h3⟩:=kP (η:=η) hm;obtain ⟨h4,z,h5,h6⟩:=hd g h2;exact ⟨z,h5,h3 z h4 h6⟩
 have Y3:(match ig a,ig b with | some x,some y=>jG (.bin op x y) | _,_=>none)=some v->∃z,(do eqGuard op t x y u u';binOp op t u u':Sem Value).run P w=.ok z w/\VR η v z:=by
  intro hs;split at hs
  ·next m n hm hn=>
   obtain ⟨g1,a1,a2,a3⟩:=kK hm hx;obtain ⟨g2,b1,b2,b3⟩:=kK hn hy;refine two (m:=m) (n:=n) hs λg hg=>?_;simp only [Nd.den,a1,b1] at hg;exact afG hg a3 b3
  ·cases hs
 split at hs
 ·exact Y3 hs
 ·exact Y3 hs
 ·next hu=>
  split at hs
  ·next m n hm hn=>
   obtain ⟨g1,a1,a2,a3⟩:=kK hm hx;obtain ⟨g2,b1,b2,b3⟩:=kK hn hy;refine two (m:=m) (n:=n) hs λg hg=>?_;simp only [Nd.den,a1,b1] at hg;exact afE hu hg a3 b3
  ·cases hs
 ·next fs hu=>
  split at hs
  ·next hc=>
   rw [aI,uJ,uJ] at hc;split at hs
   ·next ks m n hks hm hn=>
    obtain ⟨l1,g1,_,_,a1,a2,a3⟩:=Gn hm hx;obtain ⟨l2,g2,_,_,b1,b2,b3⟩:=Gn hn hy;refine two (m:=m) (n:=n) hs λg hg=>?_;simp only [Nd.den,a1,b1] at hg;exact afF hu hc.1 hc.2 hks hg a3 b3
   ·cases hs
  ·cases hs
 ·next e hu=>
  have rx:∀ {m off:Nat} {u:Value},VR η (.rx m off) u->∃ad,u=.pointer (some ad):=by
   intro m off u h;simp only [VR] at h;obtain ⟨g,bl,base,cs,elem,fr,y,_,_,_,rfl,_⟩:=h;exact ⟨_,rfl⟩
  have pv:∀ {id m off:Nat} {u:Value},VR η (.pv id m off) u->∃ad,u=.pointer (some ad):=by
   intro id m off u h;simp only [VR] at h;obtain ⟨q,k,i,_,_,rfl⟩:=h;exact ⟨_,rfl⟩
  have np:∀ {u:Value},VR η .jA u->u=.pointer none:=by intro u h;simpa only [VR] using h
  split at hs<;>cases hs
  ·obtain ⟨ad,rfl⟩:=rx hx;have:=np hy;subst this;exact ⟨_,oQ (Bz hu _) rfl rfl,by simp only [VR]⟩
  ·obtain ⟨ad,rfl⟩:=rx hy;have:=np hx;subst this;exact ⟨_,oQ (Bv hu _) rfl rfl,by simp only [VR]⟩
  ·obtain ⟨ad,rfl⟩:=rx hx;have:=np hy;subst this;exact ⟨_,oU (Bz hu _) rfl rfl,by simp only [VR];rfl⟩
  ·obtain ⟨ad,rfl⟩:=rx hy;have:=np hx;subst this;exact ⟨_,oU (Bv hu _) rfl rfl,by simp only [VR];rfl⟩
  ·obtain ⟨ad,rfl⟩:=pv hx;have:=np hy;subst this;exact ⟨_,oQ (Bz hu _) rfl rfl,by simp only [VR]⟩
  ·obtain ⟨ad,rfl⟩:=pv hy;have:=np hx;subst this;exact ⟨_,oQ (Bv hu _) rfl rfl,by simp only [VR]⟩
  ·obtain ⟨ad,rfl⟩:=pv hx;have:=np hy;subst this;exact ⟨_,oU (Bz hu _) rfl rfl,by simp only [VR];rfl⟩
  ·obtain ⟨ad,rfl⟩:=pv hy;have:=np hx;subst this;exact ⟨_,oU (Bv hu _) rfl rfl,by simp only [VR];rfl⟩
 ·cases hs
theorem aqu {op:UnOp} {g g':GV} {u:Value} (h:Q8 op g=some g') (h1:GR η.ro g u):g'.scalar=true/\∃z,(Op.unary op u).run P w=.ok z w/\GR η.ro g' z:=by
 unfold Q8 at h;split at h
 ·simp only [GR] at h1;subst h1
  split at h
  ·cases h;exact ⟨rfl,_,rfl,by simp only [GR]⟩
  ·cases h
 ·simp only [GR] at h1;subst h1
  split at h
  ·cases h;exact ⟨rfl,_,rfl,by simp only [GR]⟩
  ·simp only [bU,aT] at h
   subst h;exact ⟨rfl,_,rfl,by simp only [GR]⟩
  ·cases h
 ·cases h
theorem aqb {op:UnOp} {a v:AV} {u:Value} (hs:I7 op a=some v) (hx:VR η a u):∃z,(Op.unary op u).run P w=.ok z w/\VR η v z:=by
 unfold I7 at hs;split at hs
 ·next n=>
  obtain ⟨_,g,_,h2,h3⟩:=kP (η:=η) hs;simp only [VR] at hx;obtain ⟨g0,a1,a2,a3⟩:=hx;simp only [Nd.den,a1] at h2;obtain ⟨h4,z,h5,h6⟩:=aqu (P:=P) (w:=w) h2 a3;exact ⟨z,h5,h3 z h4 h6⟩
 ·cases hs
end
end Go.aN
namespace Go.aN
set_option linter.unusedSimpArgs false
noncomputable section
variable [aF]
set_option linter.unusedSectionVars false
set_option linter.unusedVariables false
variable {P:Program} {η:Env} {σ σ':au} {w:World}
theorem SR.swap (h:SR P η σ w) {id:Nat} {o o':aZ} (hg:σ.get id=some o) (ho:o'.own=o.own) (hl:Live P η w id o'):SR P η (σ.put id o') w:=by
 have key:∀k u,(σ.put id o').get k=some u->∃u',σ.get k=some u'/\u.own=u'.own:=by
  intro k u hk;rw [au.get_put] at hk;split at hk
  ·next e=>cases hk;subst e;exact ⟨o,hg,ho⟩
  ·exact ⟨u,hk,rfl⟩
 refine ⟨h.kZ,h.dom,λk u hk=>?_,h.je,λk u k' u' q q' h1 h2 h3 hne h5 h6=>?_,h.iy,λk u q h1 h2 h3=>?_,h.tabs⟩
 ·rw [au.get_put] at hk
  split at hk
  ·next e=>cases hk;subst e;exact hl
  ·exact h.live k u hk
 ·obtain ⟨v,a1,a2⟩:=key k u h1
  obtain ⟨v',b1,b2⟩:=key k' u' h3;exact h.sep k v k' v' q q' a1 (a2 ▸ h2) b1 hne h5 h6
 ·obtain ⟨v,a1,a2⟩:=key k u h1
  exact h.kE k v q a1 (a2 ▸ h2) h3
theorem St.left {η':Env} {τ:au} {w':World} (h:St P η τ w η' σ' w') (hl:τ.lock=σ.lock) (hn:τ.next=σ.next) (hk:∀k u,τ.get k=some u->u.own=true->∃u',σ.get k=some u'/\u'.own=true):St P η σ w η' σ' w':=by
 refine ⟨h.ext,h.rel,h.size,λbl hb hno=>h.keep bl hb λk u q a1 a2 a3 a4=>?_,λk u q a1 a2 a3 a4=>?_,h.os,h.tape,h.output,h.lock.trans hl,hn ▸ h.next,hn ▸ h.new,λb hb=>?_⟩
 ·obtain ⟨v,b1,b2⟩:=hk k u a1 a2
  exact hno k v q b1 b2 (hl ▸ a3) a4
 ·rcases h.own k u q a1 a2 (hl ▸ a3) a4 with h1 | ⟨k0,u0,q0,b1,b2,b3,b4,b5⟩
  ·exact .inl h1
  ·obtain ⟨v,c1,c2⟩:=hk k0 u0 b1 b2
   exact .inr ⟨k0,v,q0,c1,c2,hl ▸ b3,b4,b5⟩
 ·rcases h.nV b hb with h1 | h1 | ⟨k0,u0,q0,b1,b2,b3,b4,b5⟩
  ·exact .inl h1
  ·exact .inr (.inl h1)
  ·obtain ⟨v,c1,c2⟩:=hk k0 u0 b1 b2
   exact .inr (.inr ⟨k0,v,q0,c1,c2,hl ▸ b3,b4,b5⟩)
theorem St.right {η':Env} {τ:au} {w':World} (h:St P η σ w η' σ' w') (rel:SR P η' τ w') (hl:τ.lock=σ'.lock) (hn:τ.next=σ'.next) (hk:∀k u,τ.get k=some u->u.own=true->∃u',σ'.get k=some u'/\u'.own=true):St P η σ w η' τ w':=by
 refine ⟨h.ext,rel,h.size,h.keep,λk u q a1 a2 a3 a4=>?_,h.os,h.tape,h.output,hl.trans h.lock,by rw [hn];exact h.next,by rw [hn];exact h.new,h.nV⟩;obtain ⟨v,b1,b2⟩:=hk k u a1 a2;exact h.own k v q b1 b2 a3 a4
def bH (xs:List GV):List AV:=dF (xs.flatMap GV.cells)
theorem J8 {xs:List GV} {sz:Nat} (h:∀x∈xs,x.cells.length=sz):(xs.flatMap GV.cells).length=xs.length * sz:=by
 induction xs with
 | nil=>simp
 | cons x xs ih=>
   rw [jl,dS,h x (by simp),ih (λy hy=>h y (by simp [hy])),iT,oN];omega
theorem aiP {xs:List GV} {sz:Nat} (h:∀x∈xs,x.cells.length=sz) (i:Nat):(xs.flatMap GV.cells).drop (i * sz)=(xs.drop i).flatMap GV.cells:=by
 induction xs generalizing i with
 | nil=>simp
 | cons x xs ih=>
   cases i with
   | zero=>simp
   | succ i=>
     have hx:=h x (by simp);rw [jl,Yi,gJ (by rw [hx,oN];omega),hx,dA,Jl,<- ih (λy hy=>h y (by simp [hy]))];congr 1;rw [oN];omega
theorem aiO {xs:List GV} {sz i:Nat} {x:GV} (h:∀x∈xs,x.cells.length=sz) (hi:xs[i]? = some x):((xs.flatMap GV.cells).drop (i * sz)).take sz=x.cells:=by
 rw [aiP h];have:xs.drop i=x::xs.drop (i+1):=by
  obtain ⟨hlt,rfl⟩:=dY.1 hi;exact jc hlt
 have hl:=h x (qK hi);rw [this,jl,MB (by omega),jJ (by omega)]
theorem OI (l:List GV) (n:Nat):dF (l.take n)=(dF l).take n:=by rw [uf,uf,List.map_take]
theorem OH (l:List GV) (n:Nat):dF (l.drop n)=(dF l).drop n:=by rw [uf,uf,List.map_drop]
theorem D9 (l m:List GV):dF (l++m)=dF l++dF m:=by rw [uf,uf,uf,xP]
theorem ungroup:∀ (xs:List GV) (vs:List Value),ay η (bH xs) vs->(∀x∈xs,x.cells.all GV.scalar=true)->∃ys,aO η.ro xs ys/\dJ ys=vs/\∀ (k:Nat) x y,xs[k]? = some x->ys[k]? = some y->y.cells.size=x.cells.length
 | [],vs,h,_=>by
   simp only [bH,List.flatMap_nil,dF,ay] at h;subst h;exact ⟨[],by simp [aO],rfl,by simp⟩
 | x::xs,vs,h,hsc=>by
   have h':ay η (dF x.cells++bH xs) vs:=by rw [bH,jl,D9] at h;exact h
   have h1:=h'.take x.cells.length;have h2:=h'.drop x.cells.length;rw [MB (by rw [kJ];omega),jJ (by rw [kJ];omega)] at h1;rw [RF (by rw [kJ];omega),gJ (by rw [kJ];omega),dA] at h2;obtain ⟨ys,g1,g2,g3⟩:=ungroup xs _ h2 (λy hy=>hsc y (by simp [hy]));have hl:=h1.length;rw [kJ] at hl;have fin:∀y,GR η.ro x y->y.cells.toList=vs.take x.cells.length->∃ys,aO η.ro (x::xs) ys/\dJ ys=vs/\∀ (k:Nat) x' y,(x::xs)[k]? = some x'->ys[k]? = some y->y.cells.size=x'.cells.length:=by
    intro y hy hyc;refine ⟨y::ys,by simp only [aO];exact ⟨y,ys,rfl,hy,g1⟩, ?_, ?_⟩
    ·have:dJ (y::ys)=y.cells.toList++dJ ys:=by simp [dJ]
     rw [this,hyc,g2,xR]
    ·intro k x' y' hk hk'
     cases k with
     | zero=>simp at hk hk';subst hk;subst hk';rw [hl,<- hyc];simp
     | succ k=>exact g3 k x' y' (by simpa using hk) (by simpa using hk')
   cases x with
   | g cs=>exact fin (.agg ⟨vs.take cs.length⟩) (by simp only [GR];exact ⟨_,rfl,(l9 _ _).2 h1⟩) rfl
   | _=>
     simp only [GV.cells,dF,ay,iT,qI] at h1 hl;obtain ⟨u,us,e1,e2,rfl⟩:=h1;refine fin u ((jU _ _).2 e2) ?_;rw [acE (GR.nT ((jU _ _).2 e2) rfl)];exact e1.symm
theorem aO.scalars {ro:Nat->Option Obj}:∀ {gs:List GV} {vs:List Value},aO ro gs vs->(∀v∈vs,nT v=true)->gs.all GV.scalar=true
 | [],_,_,_=>rfl
 | g::gs,vs,h,ho=>by
   simp only [aO] at h;obtain ⟨x,xs,rfl,h1,h2⟩:=h;simp only [rF,aI];refine ⟨?_,aO.scalars h2 λv hv=>ho v (by simp [hv])⟩;cases g with
   | g cs=>simp only [GR] at h1;obtain ⟨vs,rfl,_⟩:=h1;have:=ho (.agg ⟨vs⟩) (by simp);simp [nT] at this
   | _=>rfl
theorem OR.Io {q:Place} {m et:Nat} {f:Bool} (h:OR P η q w (.vec m et f)):∃xs,aF.val m=some (.l xs)/\(∀x∈xs,x.cells.length=q.es)/\et≠0/\0 < q.es/\sizeT P et=some q.es/\xs.length * q.es<=q.sz/\(∀x∈xs,x.cells.all GV.scalar=true)/\OR P η q w (.cells (bH xs) et true true):=by
 obtain ⟨xs,cs,elem,fr,ys,h1,h2,h3,h4,h5,h6,r,h8,_⟩:=h;obtain ⟨a1,a2,a3⟩:=r.room rfl;have hsz:∀x∈xs,x.cells.length=q.es:=by
  intro x hx;obtain ⟨k,hk⟩:=Jo hx;obtain ⟨y,hy,hv⟩:=h3.at hk;rw [hv.Zo];exact h4 y (qK hy)
 have hvs:ay η (bH xs) (dJ ys):=by rw [bH,<- Ui];exact aaD ((l9 _ _).1 h3)
 refine ⟨xs,h1,hsz,a1,a2,a3,h6,h8,cs,elem,fr,h2, { fits:=r.fits,le:=by rw [bH,kJ,J8 hsz];exact h6,shut:=by simp,cell:=λk a hk=>?_,free:=r.free,whole:=r.whole,room:=r.room }⟩;obtain ⟨v,hv,hr⟩:=hvs.at hk;exact ⟨v,h5 k v hv,hr⟩
theorem OR.Rh {q:Place} {m et:Nat} (h:OR P η q w (.vec m et true)):q.es<=q.sz:=by
 obtain ⟨xs,cs,elem,fr,ys,h1,h2,h3,h4,h5,h6,r,h8,h9⟩:=h;exact h9 rfl
theorem OR.vF {q:Place} {m et:Nat} {f:Bool} {xs:List GV} (hf:f=true->q.es<=q.sz) (hv:aF.val m=some (.l xs)) (hsz:∀x∈xs,x.cells.length=q.es) (hsc:∀x∈xs,x.cells.all GV.scalar=true) {c:List AV} (h:OR P η q w (.cells c et true true)) (hc:∀vs,ay η c vs->ay η (bH xs) vs):OR P η q w (.vec m et f):=by
 obtain ⟨cs,elem,fr,h1,r⟩:=h;have hfit:=r.fits;have hle:=r.le;have hcv:ay η c ((cs.toList.drop q.ba).take c.length):=by
  refine ay.of (by simp;omega) λk a hk=>?_;obtain ⟨x,hx,hv⟩:=r.cell k a hk;have hlt:=(dY.1 hk).1;exact ⟨x,by rw [kM,aj hlt,pU];simpa using hx,hv⟩
 have hg:=hc _ hcv;obtain ⟨ys,g1,g2,g3⟩:=ungroup xs _ hg hsc;have hlen:xs.length * q.es=c.length:=by
  have:=hg.length;rw [bH,kJ,J8 hsz] at this;rw [this];simp;omega
 refine ⟨xs,cs,elem,fr,ys,hv,h1,g1,λy hy=>?_,λk x hk=>?_,by omega, { fits:=r.fits,le:=by simp,shut:=by simp,cell:=by simp,free:=r.free,whole:=r.whole,room:=r.room },hsc,hf⟩
 ·obtain ⟨k,hk⟩:=Jo hy
  have hkl:k < xs.length:=by rw [g1.length];exact (dY.1 hk).1
  rw [g3 k _ y (cO hkl) hk];exact hsz _ (jo hkl)
 ·rw [g2,kM] at hk
  split at hk
  ·rw [pU] at hk;simpa using hk
  ·cases hk
def jO (σ:au) (id:Nat) (xs:List GV) (et:TypeId):au:=σ.put id (.cells (bH xs) et true true)
theorem Ja (h:SR P η σ w) {id m et:Nat} {f:Bool} {q:Place} (hg:σ.get id=some (.vec m et f)) (hq:η id=some q):∃xs,aF.val m=some (.l xs)/\(∀x∈xs,x.cells.length=q.es)/\et≠0/\0 < q.es/\sizeT P et=some q.es/\xs.length * q.es<=q.sz/\(∀x∈xs,x.cells.all GV.scalar=true)/\SR P η (jO σ id xs et) w:=by
 obtain ⟨xs,h1,h2,h3,h4,h5,h6,h7,h8⟩:=(h.at hg hq).Io;exact ⟨xs,h1,h2,h3,h4,h5,h6,h7,h.swap hg rfl (.inl ⟨q,hq,h8⟩)⟩
theorem Aq {id:Nat} {xs:List GV} {et:TypeId}:(jO σ id xs et).get id=some (.cells (bH xs) et true true):=by unfold jO;rw [au.get_put,aj rfl]
theorem LJ {η':Env} {w':World} {id m et:Nat} {f:Bool} {xs:List GV} (hg:σ.get id=some (.vec m et f)) (h:St P η (jO σ id xs et) w η' σ' w'):St P η σ w η' σ' w':=by
 refine h.left rfl rfl λk u hk ho=>?_;unfold jO at hk;rw [au.get_put] at hk;split at hk
 ·next e=>subst e;exact ⟨_,hg,rfl⟩
 ·exact ⟨u,hk,ho⟩
theorem aqA {η':Env} {w':World} {id m et:Nat} {f:Bool} {q:Place} {xs:List GV} (hf:f=true->q.es<=q.sz) (hg:σ.get id=some (.vec m et f)) (hq:η id=some q) (hv:aF.val m=some (.l xs)) (hsz:∀x∈xs,x.cells.length=q.es) (hsc:∀x∈xs,x.cells.all GV.scalar=true) (h:St P η σ w η' (jO σ id xs et) w'):St P η σ w η' σ w':=by
 have hq':=h.ext.pl _ _ hq;have hor:=OR.vF hf hv hsz hsc (h.rel.at Aq hq') (λ_ h=>h);refine h.right ((h.rel.swap (o':=.vec m et f) Aq rfl (.inl ⟨q,hq',hor⟩)).sub (λk o hk=>?_) (dN _)) rfl rfl (λk o hk ho=>?_)
 ·unfold jO
  rw [au.get_put,au.get_put];split
  ·next e=>rw [e,hg] at hk;exact hk
  ·exact hk
 ·unfold jO
  rw [au.get_put];split
  ·exact ⟨_,rfl,rfl⟩
  ·exact ⟨o,hk,ho⟩
theorem NI {m:Nat} {g:GV} (hv:aF.val m=some g):∀ (n off:Nat) {l:List AV},DR m off n=some l->∃r,takeN (dF g.cells) off n=some r/\∀vs,ay η r vs->ay η l vs
 | 0,off,l,h=>by
   simp only [DR,aT] at h;subst h;exact ⟨[],by simp [takeN],λ_ h=>h⟩
 | n+1,off,l,h=>by
   simp only [DR] at h;split at h
   ·next a r ha hr=>
    cases h;obtain ⟨_,g',_,h2,h3⟩:=kP (η:=η) ha;simp only [Nd.den,hv] at h2;split at h2
    ·next c hc=>
     split at h2
     ·next hs=>
      cases h2;obtain ⟨r',h4,h5⟩:=NI hv n (off+1) hr;obtain ⟨e1,e2,e3⟩:=pF h4;refine ⟨jL g'::r', ?_, ?_⟩
      ·have hlt:off < g.cells.length:=(dY.1 hc).1
       have hd:(dF g.cells).drop off=jL g'::(dF g.cells).drop (off+1):=by
        have hget:(dF g.cells)[off]? = some (jL g'):=by rw [Kq,hc];rfl
        obtain ⟨hl',he⟩:=dY.1 hget;rw [jc hl',he]
       unfold takeN;simp only [hd,wP,<- e1,iT,e2,if_true]
      ·intro vs hvs
       simp only [ay] at hvs ⊢;obtain ⟨x,xs,rfl,k1,k2⟩:=hvs;exact ⟨x,xs,rfl,h3 x hs ((jU _ _).2 k1),h5 xs k2⟩
     ·cases h2
    ·cases h2
   ·cases h
theorem Xx {t:TypeId} {m off:Nat} {g:GV} {v:AV} (hv:aF.val m=some g) (h:Lu P t m off=some v):∃r,(match mX P t with
 | some true=>match sizeT P t with
   | some n=>(takeN (dF g.cells) off n).map .agg
   | none=>none
 | some false=>(dF g.cells)[off]?
 | none=>none)=some r/\∀y,VR η r y->VR η v y:=by
 unfold Lu at h;split at h
 ·next ha=>
  split at h
  ·next n hn=>
   obtain ⟨l,hl,rfl⟩:=aW.1 h;obtain ⟨r,h1,h2⟩:=NI (η:=η) hv n off hl;rw [ha,hn];refine ⟨.agg r,by simp [h1],λy hy=>?_⟩;simp only [VR] at hy ⊢;obtain ⟨vs,rfl,h3⟩:=hy;exact ⟨vs,rfl,h2 vs h3⟩
  ·cases h
 ·next ha=>
  obtain ⟨_,g',_,h2,h3⟩:=kP (η:=η) h;simp only [Nd.den,hv] at h2;split at h2
  ·next c hc=>
   split at h2
   ·next hs=>
    cases h2;rw [ha];exact ⟨jL g',by simp only;rw [Kq,hc];rfl,λy hy=>h3 y hs ((jU _ _).2 hy)⟩
   ·cases h2
  ·cases h2
 ·cases h
theorem ap6 (h:SR P η σ w) {t:TypeId} {a v:AV} {x:Value} (hs:QK P t σ a=some v) (hx:VR η a x):∃y,(Instr.loadAt t x).run P w=.ok y w/\VR η v y:=by
 unfold QK at hs;split at hs
 ·next m off=>
  simp only [VR] at hx;obtain ⟨g,bl,base,cs,elem,fr,u,h1,h2,h3,rfl,h4⟩:=hx;obtain ⟨r,hr,hv⟩:=Xx (η:=η) h1 hs;have hx':VR η (.rp (jL g) off) (.pointer (some ⟨bl,base+off,none⟩)):=by simp only [VR];exact ⟨bl,base,cs,elem,fr,u,h2,(jU _ _).1 h3,rfl,h4⟩
  have hl:tC P t σ (.rp (jL g) off)=some r:=by simp only [tC,Ht];exact hr
  obtain ⟨y,h5,h6⟩:=BU h hl hx';exact ⟨y,h5,hv y h6⟩
 ·next id i off=>
  split at hs
  ·next m et _ hg=>
   split at hs
   ·next size hsz=>
    split at hs
    ·next e he=>
     simp only [VR] at hx;obtain ⟨q,k,j,hq,hj,rfl⟩:=hx;obtain ⟨xs,h1,h2,h3,h4,h5,_,_,hS⟩:=Ja h hg hq;rw [hsz] at h5;cases h5;obtain ⟨g,g1,g2⟩:=fK he;simp only [Nd.den,h1,hj] at g2;split at g2
     ·next hj0=>
      split at g2
      ·next x hxi=>
       split at g2
       ·next hxl=>
        cases g2;obtain ⟨r,hr,hv⟩:=Xx (η:=η) g1 hs;have hat:=aiO h2 hxi;have hcell:∀n r',takeN (dF g.cells) off n=some r'->takeN (bH xs) (j.toNat * q.es+off) n=some r':=by
         intro n r' hr';obtain ⟨e1,e2,e3⟩:=pF hr';rw [kJ] at e3;have:((bH xs).drop (j.toNat * q.es+off)).take n=r':=by
          rw [<- oq,bH,<- OH,e1,<- hat,OI,Df,Yx];congr 1;rw [hxl] at e3;omega
         unfold takeN;simp only [this,e2,if_true]
        have hget:∀r',(dF g.cells)[off]? = some r'->(bH xs)[j.toNat * q.es+off]? = some r':=by
         intro r' hr';have hlt:off < q.es:=by have:=(dY.1 hr').1;rw [kJ,hxl] at this;exact this
         rw [<- hat,OI,kM,aj hlt,OH,pU] at hr';exact hr'
        have hl:tC P t (jO σ id xs et) (.p id (j.toNat * q.es+off))=some r:=by
         simp only [tC,Aq];split at hr
         ·next ha=>
          rw [ha];split at hr
          ·next n hn=>
           rw [hn];obtain ⟨r',hr',rfl⟩:=aW.1 hr;simp only [hcell n r' hr',gI]
          ·cases hr
         ·next ha=>rw [ha];exact hget r hr
         ·cases hr
        obtain ⟨y,h5,h6⟩:=BU hS hl (x:=.pointer (some ⟨q.bl,q.ba+j.toNat * q.es+off,none⟩)) (by simp only [VR];exact ⟨q,hq,by rw [iM]⟩);exact ⟨y,h5,hv y h6⟩
       ·cases g2
      ·cases g2
     ·cases g2
    ·cases hs
   ·cases hs
  ·cases hs
 ·cases hs
theorem ap2 {t:TypeId} {a v:AV} {x:Value} {f:Nat} (h:QH P t a f=some v) (hx:VR η a x):∃y,(Instr.fieldAt t x f).run P w=.ok y w/\VR η v y:=by
 unfold QH at h;split at h
 ·next fields hu=>
  split at h
  ·next fd hf=>
   split at h
   ·next n hn=>
    split at h
    ·cases h
    ·next h0=>
     split at h
     ·next m off=>
      cases h;simp only [VR] at hx;obtain ⟨g,bl,base,cs,elem,fr,u,h1,h2,h3,rfl,h4⟩:=hx;refine ⟨.pointer (some ⟨bl,base+off+fd.offset,none⟩), ?_, ?_⟩
      ·simp [Instr.fieldAt,aV hu,hf,Instr.sureAddr,fieldPlace,iC hn,h0,oz]
      ·simp only [VR];exact ⟨g,bl,base,cs,elem,fr,u,h1,h2,h3,by rw [iM],h4⟩
     ·next id m off=>
      cases h;simp only [VR] at hx;obtain ⟨q,k,i,hq,hi,rfl⟩:=hx;refine ⟨.pointer (some ⟨q.bl,q.ba+i.toNat * q.es+off+fd.offset,none⟩), ?_, ?_⟩
      ·simp [Instr.fieldAt,aV hu,hf,Instr.sureAddr,fieldPlace,iC hn,h0,oz]
      ·simp only [VR];exact ⟨q,k,i,hq,hi,by rw [iM]⟩
     ·cases h
   ·cases h
  ·cases h
 ·cases h
theorem Pj {i:Nat} {g:GV} {y:Value} (hg:aF.val i=some g) (hy:GR η.ro g y):∀ {c j:Nat} {k:AV},Ig i c j=some k->∃ (kk:IntKind) (m:Int),k=.i .i64 m/\y=.int kk m
 | 0,j,k,h=>by cases h
 | c+1,j,k,h=>by
   unfold Ig at h;have key:∀ {r v},jG (.xC i j)=some r->(∀x,VR η r x->VR η (.b v) x)->∃ (kk:IntKind) (m:Int),g=.i kk m/\decide (m=(j:Int))=v:=by
    intro r v hb hv;obtain ⟨_,r',q1,q2,q3⟩:=kP (η:=η) hb;simp only [Nd.den,hg] at q2;cases g with
    | i kk m=>
      simp only [aT] at q2;subst q2;have:=hv _ (q3 (.bool (decide (m=(j:Int)))) rfl (by simp only [GR]));simp only [VR] at this;cases this;exact ⟨kk,m,rfl,rfl⟩
    | _=>cases q2
   have fin:∀ {r},jG (.xC i j)=some r->(∀x,VR η r x->VR η (.b true) x)->some (AV.i .i64 (j:Int))=some k->∃ (kk:IntKind) (m:Int),k=.i .i64 m/\y=.int kk m:=by
    intro r hb hv he;obtain ⟨kk,m,rfl,hm⟩:=key hb hv;cases he;have hm:m=(j:Int):=by simpa using hm
    subst hm;simp only [GR] at hy;exact ⟨kk,_,rfl,hy⟩
   split at h
   ·next hb=>exact fin hb (λ_ h=>h) h
   ·next hb=>exact Pj hg hy h
   ·next m hb=>
    split at h
    ·next hd=>
     obtain ⟨v,hv,q4⟩:=DX hd;cases hv;exact fin hb (λx hx=>q4 η x hx) h
    ·next hd=>exact Pj hg hy h
    ·cases h
   ·cases h
theorem ap3 (h:SR P η σ w) {t:TypeId} {a i v:AV} {x y:Value} (hs:QJ P σ t a i=some v) (hx:VR η a x) (hy:VR η i y):∃z,(Instr.indexAt t x y).run P w=.ok z w/\VR η v z:=by
 unfold QJ at hs;split at hs
 ·next e hu=>
  split at hs
  ·next size ni hsz hni=>
   obtain ⟨gi,i1,i2,i3⟩:=kK hni hy;split at hs
   ·next n=>
    obtain ⟨m,hm,rfl⟩:=aW.1 hs;obtain ⟨g,g1,g2⟩:=fK hm;simp only [VR] at hx;obtain ⟨gl,l1,l2,l3⟩:=hx;simp only [Nd.den,l1,i1] at g2;split at g2
    ·next xs k j e1 e2=>
     cases e1;cases e2;simp only [GR] at i3;subst i3;split at g2
     ·next hj=>
      split at g2
      ·next z hz=>
       split at g2
       ·next hzl=>
        cases g2;have hl:xZ P t (.ro (dF xs)) (.i k j)=some (.rp (jL g) 0):=by
         have:(dF xs)[j.toNat]? = some (jL g):=by rw [Kq,hz];rfl
         simp only [xZ,hu,tu,hsz,aj hj,this,Ht,kJ,hzl,if_true]
        obtain ⟨z',h5,h6⟩:=OZ (P:=P) (w:=w) hl ((jU (.l xs) x).1 l3) (by simp only [VR]:VR η (.i k j) (.int k j));refine ⟨z',h5, ?_⟩;simp only [VR] at h6 ⊢;obtain ⟨bl,base,cs,elem,fr,u,k1,k2,k3,k4⟩:=h6;exact ⟨g,bl,base,cs,elem,fr,u,g1,k1,(jU _ _).2 k2,k3,k4⟩
       ·cases g2
      ·cases g2
     ·cases g2
    ·cases g2
   ·next id n=>
    split at hs
    ·next m et _ hg=>
     split at hs
     ·next het=>
      have Ec:=bG het;subst Ec;obtain ⟨m',hm,rfl⟩:=aW.1 hs;obtain ⟨g,g1,g2⟩:=fK hm;simp only [VR] at hx;obtain ⟨xs,l1,hx⟩:=hx;simp only [Nd.den,l1,i1] at g2;split at g2
      ·next xs' k j e1 e2=>
       cases e1;cases e2;simp only [GR] at i3;subst i3;split at g2
       ·next hj=>
        cases g2;rcases hx with ⟨q,hq,hle,rfl⟩ | ⟨_,rfl,_⟩
        ·obtain ⟨_,_,_,_,_,h5,_⟩:=(h.at hg hq).Io
         rw [hsz] at h5;cases h5;have hl:xZ P t (.sl id 0 xs.length none) (.i k j)=some (.p id (0+j.toNat * q.es)):=by
          simp only [xZ,hu,tu,hsz,aj hj]
         obtain ⟨z',h6,h7⟩:=OZ (P:=P) (w:=w) (x:=.slice (some ⟨q.bl,q.ba,none⟩) xs.length (q.sz / q.es)) hl (by simp only [VR];exact ⟨q,hq,by simpa using hle,by simp⟩) (by simp only [VR]:VR η (.i k j) (.int k j));refine ⟨z',h6, ?_⟩;simp only [VR] at h7 ⊢;obtain ⟨q',hq',rfl⟩:=h7;rw [hq] at hq';cases hq';exact ⟨q,.i64,j,hq,g1,by simp⟩
        ·simp at hj;omega
       ·cases g2
      ·cases g2
     ·cases hs
    ·cases hs
   ·cases hs
  ·cases hs
 ·next len e hu=>
  split at hs
  ·next ni hi=>
   obtain ⟨g,i1,_,i3⟩:=kK hi hy;split at hs
   ·next k hk=>
    obtain ⟨kk,m,rfl,rfl⟩:=Pj i1 i3 hk;have hs':xZ P t a (.i kk m)=some v:=hs;exact OZ hs' hx (by simp only [VR])
   ·cases hs
  ·cases hs
 ·cases hs
theorem ap5 {t:TypeId} {ts:Array TypeId} {ty:TypeId} {a v:AV} {x:Value} (ht:ts[0]? = some t) (hs:Xw P t a=some v) (hx:VR η a x) :
 ∃y,(Builtin.len_ ts ty #[x]).run P w=.ok y w/\VR η v y:=by
 have aop:∀s:List UInt8,P.underlying t=some .string->(Builtin.len_ ts ty #[.string ⟨⟨s⟩⟩]).run P w=.ok (.int .i64 s.length) w:=λs hu=>by simp [Builtin.len_,ht,aV hu,goInt,strSize]
 have Qp:∀ (e:TypeId) b (n c:Nat),P.underlying t=some (.slice e)->(Builtin.len_ ts ty #[.slice b n c]).run P w=.ok (.int .i64 n) w:=λe b n c hu=>by simp [Builtin.len_,ht,aV hu,goInt]
 unfold Xw at hs;split at hs
 ·next n hu=>
  obtain ⟨_,g,_,h2,h3⟩:=kP (η:=η) hs;simp only [VR] at hx;obtain ⟨g0,a1,a2,a3⟩:=hx;simp only [Nd.den,a1] at h2;split at h2
  ·next s e1=>
   cases e1;cases h2;simp only [GR] at a3;subst a3;exact ⟨_,aop s hu,h3 _ rfl (by simp only [GR])⟩
  ·cases h2
 ·next e n hu=>
  obtain ⟨_,g,_,h2,h3⟩:=kP (η:=η) hs;simp only [VR] at hx;obtain ⟨g0,a1,a2,a3⟩:=hx;simp only [Nd.den,a1] at h2;split at h2
  ·next xs e1=>
   cases e1;cases h2;simp only [GR] at a3;rcases a3 with ⟨rfl,_,rfl⟩ | ⟨bl,off,c,ys,sz,rfl,_⟩
   ·exact ⟨_,Qp e _ _ _ hu,h3 _ rfl (by simp only [GR];rfl)⟩
   ·exact ⟨_,Qp e _ _ _ hu,h3 _ rfl (by simp only [GR])⟩
  ·cases h2
 ·next e id n hu=>
  obtain ⟨_,g,_,h2,h3⟩:=kP (η:=η) hs;simp only [VR] at hx;obtain ⟨xs,l1,hx⟩:=hx;simp only [Nd.den,l1,aT] at h2;subst h2;rcases hx with ⟨q,hq,hle,rfl⟩ | ⟨_,rfl,rfl⟩
  ·exact ⟨_,Qp e _ _ _ hu,h3 _ rfl (by simp only [GR])⟩
  ·exact ⟨_,Qp e _ _ _ hu,h3 _ rfl (by simp only [GR];rfl)⟩
 ·cases hs
theorem ap4 {t:TypeId} {a i v:AV} {x y:Value} (hs:QI P t a i=some v) (hx:VR η a x) (hy:VR η i y):∃z,(Instr.index t x y).run P w=.ok z w/\VR η v z:=by
 unfold QI at hs;split at hs
 ·next hu=>
  split at hs
  ·next n ni hn hni=>
   obtain ⟨gi,i1,i2,i3⟩:=kK hni hy;obtain ⟨gs,l1,l2,l3⟩:=kK hn hx;obtain ⟨_,g,_,h2,h3⟩:=kP (η:=η) hs;simp only [Nd.den,l1,i1] at h2;split at h2
   ·next s k j e1 e2=>
    cases e1;cases e2;simp only [GR] at i3;subst i3;simp only [GR] at l3;subst l3;split at h2
    ·next hj=>
     split at h2
     ·next c hc=>
      cases h2;have hl:AZ P t (.s s) (.i k j)=some (.i .u8 c.toNat):=by simp only [AZ,hu,tu,aj hj,hc]
      obtain ⟨z,h5,h6⟩:=UN (P:=P) (w:=w) (η:=η) hl (by simp only [VR]:VR η (.s s) (.string ⟨⟨s⟩⟩)) (by simp only [VR]:VR η (.i k j) (.int k j));exact ⟨z,h5,h3 z rfl ((jU _ _).2 h6)⟩
     ·cases h2
    ·cases h2
   ·cases h2
  ·cases hs
 ·next len e hu=>
  split at hs
  ·next ni hi=>
   obtain ⟨g,i1,_,i3⟩:=kK hi hy;split at hs
   ·next k hk=>
    obtain ⟨kk,m,rfl,rfl⟩:=Pj i1 i3 hk;have hs':AZ P t a (.i kk m)=some v:=hs;exact UN hs' hx (by simp only [VR])
   ·cases hs
  ·cases hs
 ·cases hs
theorem Y8 {η:Env} {lo:Option AV} {lo':Option Value} {l:Nat} {d:Nd} {gl:GV} (hb:(match lo with | none=>eH d | some a=>ig a)=some l) (ho:jV η lo lo') (hv:aF.val l=some gl) :
 (lo=none/\lo'=none/\d.den aF.I aF.val=some gl)\/(∃v,lo'=some v/\GR η.ro gl v):=by
 cases lo with
 | none=>
   obtain ⟨g,h1,h2⟩:=fK hb;rw [hv] at h1;cases h1;refine .inl ⟨rfl, ?_,h2⟩;cases lo' with
   | none=>rfl
   | some v=>simp [jV] at ho
 | some a=>
   cases lo' with
   | none=>simp [jV] at ho
   | some v=>
     have hv':VR η a v:=by simpa [jV] using ho
     obtain ⟨g,h1,_,h3⟩:=kK hb hv';rw [hv] at h1;cases h1;exact .inr ⟨v,rfl,h3⟩
theorem Xy {lo hi:Option AV} {lo' hi':Option Value} {l h:Nat} {d:Nd} {k k':IntKind} {li hn:Int} {len:Nat} (hlo:JH lo=some l) (hhi:Nz d hi=some h) (h1:jV η lo lo') (h2:jV η hi hi')
 (hl:aF.val l=some (.i k li)) (hh:aF.val h=some (.i k' hn)) (hd:d.den aF.I aF.val=some (.i k' hn)->hn=len) (h0:0<=li) (hlh:li<=hn) (hle:hn<=len) :
 ∃lo2 hi2:Option AV,jV η lo2 lo'/\jV η hi2 hi'/\uP len (λh=>Nat.ble h len) lo2 hi2=some (li.toNat,hn.toNat):=by
 have hb1:=Y8 (d:=.ci .i64 0) (by cases lo<;>exact hlo) h1 hl;have hb2:=Y8 (d:=d) (by cases hi<;>exact hhi) h2 hh;have hroom:Nat.ble hn.toNat len=true:=Yz (by omega);have hH:∃hi2:Option AV,jV η hi2 hi'/\xY len (λh=>Nat.ble h len) hi2=some hn.toNat:=by
  rcases hb2 with ⟨_,e2,e3⟩ | ⟨v,rfl,e3⟩
  ·refine ⟨none,by rw [e2];simp [jV], ?_⟩
   simp only [xY];rw [hd e3];simp
  ·simp only [GR] at e3;subst e3
   exact ⟨some (.i k' hn),by simp [jV,VR],by simp only [xY,tu];rw [aj ⟨by omega,hroom⟩]⟩
 have hL:∃lo2:Option AV,jV η lo2 lo'/\Gj hn.toNat lo2=some li.toNat:=by
  rcases hb1 with ⟨_,e2,e3⟩ | ⟨v,rfl,e3⟩
  ·refine ⟨none,by rw [e2];simp [jV], ?_⟩
   simp only [Nd.den,aT,GV.i.injEq] at e3;simp only [Gj];rw [<- e3.2];rfl
  ·simp only [GR] at e3;subst e3
   exact ⟨some (.i k li),by simp [jV,VR],by simp only [Gj,tu];rw [aj ⟨h0,by omega⟩]⟩
 obtain ⟨hi2,a1,a2⟩:=hH;obtain ⟨lo2,b1,b2⟩:=hL;exact ⟨lo2,hi2,b1,a1,by simp only [uP,a2,b2]⟩
theorem aei (h:SR P η σ w) {t:TypeId} {a v:AV} {x:Value} {lo hi:Option AV} {lo' hi':Option Value} (hs:LC P t a lo hi=some v) (hx:VR η a x) (hlo:jV η lo lo') (hhi:jV η hi hi') :
 ∃y,(Instr.sliceAt t x lo' hi' none).run P w=.ok y w/\VR η v y:=by
 unfold LC at hs;split at hs
 ·next hu=>
  split at hs
  ·next n hn=>
   split at hs
   ·next l hh h1 h2=>
    obtain ⟨gs,s1,s2,s3⟩:=kK hn hx;obtain ⟨_,g,_,h4,h5⟩:=kP (η:=η) hs;simp only [Nd.den,s1] at h4;split at h4
    ·next s k li k' hi2 e1 e2 e3=>
     cases e1;split at h4
     ·next hc=>
      cases h4;simp only [GR] at s3;subst s3;obtain ⟨lo2,hi3,b1,b2,b3⟩:=Xy (len:=s.length) h1 h2 hlo hhi e2 e3 (λhd=>by simp only [Nd.den,s1,aT,GV.i.injEq] at hd;exact hd.2.symm) hc.1 hc.2.1 hc.2.2;have hl:yg P t σ (.s s) lo2 hi3=some (.s ((s.take hi2.toNat).drop li.toNat)):=by simp only [yg,hu,b3,gI]
      obtain ⟨z,h6,h7⟩:=Qv h hl (by simp only [VR]:VR η (.s s) (.string ⟨⟨s⟩⟩)) b1 b2;exact ⟨z,h6,h5 z rfl ((jU _ _).2 h7)⟩
     ·cases h4
    ·cases h4
   ·cases hs
  ·cases hs
 ·next e hu=>
  split at hs
  ·next n size hsz=>
   split at hs
   ·next l hh h1 h2=>
    simp only [VR] at hx;obtain ⟨gs,s1,s2,s3⟩:=hx;obtain ⟨_,g,_,h4,h5⟩:=kP (η:=η) hs;simp only [Nd.den,s1] at h4;split at h4
    ·next xs k li k' hi2 e1 e2 e3=>
     cases e1;split at h4
     ·next hc=>
      cases h4;obtain ⟨c1,c2,c3,c4⟩:=hc;obtain ⟨lo2,hi3,b1,b2,b3⟩:=Xy (len:=xs.length) h1 h2 hlo hhi e2 e3 (λhd=>by simp only [Nd.den,s1,aT,GV.i.injEq] at hd;exact hd.2.symm) c1 c2 c3;have hl:yg P t σ (.ro (dF xs)) lo2 hi3=some (.ro (dF ((xs.take hi2.toNat).drop li.toNat))):=by
       simp only [yg,hu,hsz,kJ,b3,zi];unfold Nc;split
       ·next e=>
        have:(xs.take hi2.toNat).drop li.toNat=[]:=gJ (by simp;omega);rw [this];rfl
       ·next e=>
        have hpos:0 < xs.length:=by omega
        have h0:(dF xs)[0]? = some (jL xs[0]):=by rw [Kq,cO hpos];rfl
        rw [h0];simp only;have hc0:(jL xs[0]).cells.length=size:=by
         rw [Ht,kJ];rw [List.all_eq_true] at c4;exact bG (c4 _ (jo hpos))
        rw [aj hc0,OH,OI]
      obtain ⟨z,h6,h7⟩:=Qv h hl ((jU (.l xs) x).1 s3) b1 b2;exact ⟨z,h6,h5 z rfl ((jU _ _).2 (by simpa only [jL] using h7))⟩
     ·cases h4
    ·cases h4
   ·cases hs
  ·cases hs
 ·cases hs
end
end Go.aN
namespace Go.aN
set_option linter.unusedSimpArgs false
noncomputable section
variable [aF]
set_option linter.unusedSectionVars false
set_option linter.unusedVariables false
variable {P:Program} {η:Env} {σ σ':au} {w:World}
theorem am7 {cs vs r:List GV} {off:Nat} (h:putCells cs off vs=some r):off+vs.length<=cs.length/\r=cs.take off++vs++cs.drop (off+vs.length):=by
 unfold putCells at h;split at h
 ·next hl=>cases h;exact ⟨hl,rfl⟩
 ·cases h
theorem GV.ane {x y:GV} {off:Nat} {vs:List GV} (h:x.put off vs=some y) (hs:vs.all GV.scalar=true) (hx:x.cells.all GV.scalar=true):off+vs.length<=x.cells.length/\y.cells=x.cells.take off++vs++x.cells.drop (off+vs.length)/\y.cells.length=x.cells.length/\y.cells.all GV.scalar=true:=by
 have fin:∀r:List GV,off+vs.length<=x.cells.length->r=x.cells.take off++vs++x.cells.drop (off+vs.length)->r.length=x.cells.length/\r.all GV.scalar=true:=by
  intro r h1 h2;subst h2;refine ⟨by simp;omega, ?_⟩;rw [Ye,Ye,hs];rw [List.all_eq_true] at hx;simp only [LZ,aI,List.all_eq_true];exact ⟨λa ha=>hx a (FZ ha),λa ha=>hx a (AP ha)⟩
 have one:∀v,off=0->vs=[v]->x.cells.length=1->y=v->off+vs.length<=x.cells.length/\y.cells=x.cells.take off++vs++x.cells.drop (off+vs.length)/\y.cells.length=x.cells.length/\y.cells.all GV.scalar=true:=by
  intro v e1 e2 e3 e4;subst e1;subst e2;subst e4;simp only [rF,Yf,LZ] at hs;have hy:y.cells=[y]:=GV.Fj hs;refine ⟨by simp [e3], ?_,by rw [hy,e3];rfl,by rw [hy];simp [hs]⟩;rw [hy,gJ (by rw [e3];simp)];simp
 unfold GV.put at h;split at h
 ·next cs=>
  obtain ⟨r,hr,rfl⟩:=aW.1 h;obtain ⟨h1,h2⟩:=am7 hr;obtain ⟨h3,h4⟩:=fin r h1 h2;exact ⟨h1,h2,h3,h4⟩
 ·next hng=>
  have hc:x.cells.length=1:=by
   cases x with
   | g cs=>exact absurd rfl (hng cs)
   | _=>rfl
  split at h
  ·next v=>cases h;exact one y rfl rfl hc rfl
  ·cases h
theorem aaE {y:GV} {vs:List GV} {off sz:Nat}:∀ {xs:List GV} {i:Nat} {x:GV},(∀z∈xs,z.cells.length=sz)->xs[i]? = some x->off+vs.length<=sz->y.cells=x.cells.take off++vs++x.cells.drop (off+vs.length)->
 (xs.set i y).flatMap GV.cells=(xs.flatMap GV.cells).take (i * sz+off)++vs++(xs.flatMap GV.cells).drop (i * sz+off+vs.length)
 | [],i,x,_,hi,_,_=>by simp at hi
 | z::xs,0,x,hs,hi,hle,hy=>by
   simp only [iG,aT] at hi;subst hi;have hz:=hs z (by simp);rw [List.set_cons_zero,jl,jl,hy];rw [MB (by omega),RF (by omega)];simp [List.append_assoc]
 | z::xs,i+1,x,hs,hi,hle,hy=>by
   have hz:=hs z (by simp);have ih:=aaE (i:=i) (λu hu=>hs u (xQ _ hu)) (by simpa using hi) hle hy;rw [List.set_cons_succ,jl,jl,ih];have t1:∀ (F:List GV) k,(z.cells++F).take (z.cells.length+k)=z.cells++F.take k:=λF k=>by
    rw [Yw,jJ (by omega),RS]
   have t2:∀ (F:List GV) k,(z.cells++F).drop (z.cells.length+k)=F.drop k:=λF k=>by
    rw [Yi,gJ (by omega),dA,RS]
   have e:(i+1) * sz+off=z.cells.length+(i * sz+off):=by rw [hz,oN];omega
   rw [e,t1,iM z.cells.length,t2];simp [List.append_assoc]
theorem Vw:∀ {l:List AV} {ns:List Nat},nodesOf l=some ns->l.all AV.lM=true
 | [],_,_=>rfl
 | a::l,ns,h=>by
   simp only [nodesOf] at h;split at h
   ·next n r hn hr=>
    simp only [rF,aI];exact ⟨by cases a<;>simp [ig] at hn<;>rfl,Vw hr⟩
   ·cases h
theorem ay.split {l m:List AV}:∀ {vs:List Value},ay η (l++m) vs->∃us ws,vs=us++ws/\ay η l us/\ay η m ws:=by
 intro vs h;have hl:=h.length;rw [dS] at hl;refine ⟨vs.take l.length,vs.drop l.length,(xR _ _).symm, ?_, ?_⟩
 ·have:=h.take l.length;rwa [MB (by omega),jJ (by omega)] at this
 ·have:=h.drop l.length;rwa [RF (by omega),gJ (by omega),dA] at this
theorem aqa (h:SR P η σ w) {t:TypeId} {a v:AV} {x y:Value} (hs:QS P t σ a v=some σ') (hx:VR η a x) (hy:VR η v y) :
 ∃w',(Instr.storeAt t x y).run P w=.ok () w'/\St P η σ w η σ' w':=by
 unfold QS at hs;split at hs
 ·next id i off=>
  split at hs
  ·next m et f hg=>
   split at hs
   ·next hc=>
    obtain ⟨hlk,hst⟩:=hc;split at hs
    ·next size vs hsz hvs=>
     split at hs
     ·next m' hm'=>
      cases hs;simp only [VR] at hx;obtain ⟨q,k,j,hq,hj,rfl⟩:=hx;obtain ⟨xs,h1,h2,h3,h4,h5,h6,hsc,hS⟩:=Ja h hg hq;rw [hsz] at h5;cases h5;obtain ⟨gs,g1,g2,g3⟩:=PW hvs (wY hy);obtain ⟨g,k1,k2⟩:=fK hm';simp only [Nd.den,h1,hj,g1] at k2;split at k2
      ·next hj0=>
       split at k2
       ·next u hu=>
        split at k2
        ·next H7=>
         obtain ⟨z,hz,rfl⟩:=aW.1 k2;obtain ⟨p1,p2,p3,p4⟩:=GV.ane hz g2 (hsc u (qK hu));have hfl:=aaE h2 hu (by omega) p2;have hvl:v.cells.length=gs.length:=by rw [g3.length,(wY hy).length]
         have hjl:j.toNat < xs.length:=(dY.1 hu).1;have hcl:(bH xs).length=xs.length * q.es:=by rw [bH,kJ,J8 h2]
         have hle:j.toNat * q.es+off+v.cells.length<=(bH xs).length:=by
          rw [hcl,hvl];have:(j.toNat+1) * q.es<=xs.length * q.es:=qL _ hjl;rw [oN] at this;omega
         have hset:xI (bH xs) (j.toNat * q.es+off) v.cells=some ((bH xs).take (j.toNat * q.es+off)++v.cells++(bH xs).drop (j.toNat * q.es+off+v.cells.length)):=by
          unfold xI;rw [aj hle]
         have ajW:A8 P t (jO σ id xs et) (.p id (j.toNat * q.es+off)) v=some ((jO σ id xs et).put id (.cells ((bH xs).take (j.toNat * q.es+off)++v.cells++(bH xs).drop (j.toNat * q.es+off+v.cells.length)) et true true)):=by
          simp only [A8,Aq];rw [aj ⟨hlk,hst,Vw hvs⟩,hset];rfl
         obtain ⟨w',hrun,hstp⟩:=QD hS ajW (x:=.pointer (some ⟨q.bl,q.ba+j.toNat * q.es+off,none⟩)) (by simp only [VR];exact ⟨q,hq,by rw [iM]⟩) hy;refine ⟨w',hrun,(LJ hg hstp).right ?_ rfl rfl ?_⟩
         ·have hor:=hstp.rel.at (id:=id) (q:=q) (by rw [au.get_put,aj rfl]) hq
          have hnew:OR P η q w' (.vec m' et f):=by
           refine OR.vF (λe=>by subst e;exact (h.at hg hq).Rh) k1 ?_ ?_ hor ?_
           ·intro x hx
            rcases Yq hx with hx | rfl
            ·exact h2 x hx
            ·rw [p3,H7]
           ·intro x hx
            rcases Yq hx with hx | rfl
            ·exact hsc x hx
            ·exact p4
           ·intro us hus
            have e1:bH (xs.set j.toNat z)=(bH xs).take (j.toNat * q.es+off)++dF gs++(bH xs).drop (j.toNat * q.es+off+gs.length):=by
             unfold bH;rw [hfl,D9,D9,OI,OH]
            rw [e1,<- hvl];obtain ⟨u1,u2,rfl,q1,q2⟩:=ay.split hus;obtain ⟨u3,u4,rfl,q3,q4⟩:=ay.split q1;obtain ⟨gs',g1',_,g3'⟩:=PW hvs q4;rw [g1] at g1';cases g1';exact (q3.append ((l9 _ _).1 g3')).append q2
          have hg2:=au.get_put (jO σ id xs et) id id (.cells ((bH xs).take (j.toNat * q.es+off)++v.cells++(bH xs).drop (j.toNat * q.es+off+v.cells.length)) et true true);rw [aj rfl] at hg2;have:=hstp.rel.swap (o':=.vec m' et f) hg2 rfl (.inl ⟨q,hq,hnew⟩);refine this.sub (λid' o ho=>?_) (dN _);unfold jO;rw [au.get_put] at ho ⊢;split at ho
          ·next e=>rw [aj e];exact ho
          ·next e=>rw [ah e,au.get_put,ah e,au.get_put,ah e];exact ho
         ·intro k' u' hk ho
          rw [au.get_put] at hk ⊢;split at hk
          ·next e=>rw [aj e];exact ⟨_,rfl,rfl⟩
          ·next e=>
           rw [ah e];unfold jO;rw [au.get_put,ah e];exact ⟨u',hk,ho⟩
        ·cases k2
       ·cases k2
      ·cases k2
     ·cases hs
    ·cases hs
   ·cases hs
  ·cases hs
 ·cases hs
end
end Go.aN
namespace Go.aN
set_option linter.unusedSimpArgs false
noncomputable section
variable [aF]
set_option linter.unusedSectionVars false
set_option linter.unusedVariables false
variable {P:Program} {η:Env} {σ σ':au} {w:World}
def Env.ghost (η:Env) (id:Nat):Env:=⟨η.pl,η.ro,λk=>Nat.beq k id || η.gh k⟩
theorem St.ghost (h:SR P η σ w) {τ:au} {m et:Nat} {f:Bool} (hv:aF.val m=some (.l [])) (hl:τ.lock=σ.lock) (hn:τ.next=σ.next) (hsub:∀k o,τ.get k=some o->σ.get k=some o) :
 St P η σ w (η.ghost σ.next) (τ.new (.vec m et f)) w:=by
 have hle:η.le (η.ghost σ.next):=⟨λ_ _ h=>h,λ_ _ h=>h,λid hg=>by simp [Env.ghost,hg]⟩
 have get:∀k o,(τ.new (.vec m et f)).get k=some o->(k=σ.next/\o=.vec m et f)\/(k≠σ.next/\σ.get k=some o):=by
  intro k o hk;rw [au.oG,hn] at hk;split at hk
  ·next e=>cases hk;exact .inl ⟨e,rfl⟩
  ·next e=>exact .inr ⟨e,hsub k o hk⟩
 have pl:∀k,(η.ghost σ.next) k=η k:=λ_=>rfl;have none_:∀k q,k=σ.next->η k=some q->False:=λk q e hq=>by have:=h.dom k q hq;omega
 refine ⟨hle,⟨h.kZ,λid q hq=>?_,λid o ho=>?_,λid hg=>?_,λid o id' o' q q' a1 a2 a3 a4 a5 a6=>?_,h.iy,λid o q a1 a2 a3=>?_,λp hp=>(h.tabs p hp).mono hle⟩,dN _,λ_ _ _=>rfl,λid o q a1 a2 a3 a4=>?_,rfl,rfl,rfl,hl, ?_, ?_,λ_ h=>.inl h⟩
 ·have:=h.dom id q hq;show id < τ.next+1;omega
 ·rcases get id o ho with ⟨rfl,rfl⟩ | ⟨_,h2⟩
  ·exact .inr ⟨by simp [Env.ghost],m,et,f,rfl,hv⟩
  ·exact (h.live id o h2).mono hle
 ·have hg':(Nat.beq id σ.next || η.gh id)=true:=hg
  rw [lS] at hg';rcases hg' with hg' | hg'
  ·have e:=bG hg'
   subst e;refine ⟨?_,by show σ.next < τ.next+1;omega⟩;rw [pl];cases hq:η σ.next with
   | none=>rfl
   | some q=>exact absurd (h.dom _ q hq) (by omega)
  ·have:=h.je id hg'
   exact ⟨this.1,by show id < τ.next+1;omega⟩
 ·rcases get id o a1 with ⟨e,_⟩ | ⟨_,h2⟩
  ·exact (none_ id q e a5).elim
  ·rcases get id' o' a3 with ⟨e,_⟩ | ⟨_,h3⟩
   ·exact (none_ id' q' e a6).elim
   ·exact h.sep id o id' o' q q' h2 a2 h3 a4 a5 a6
 ·rcases get id o a1 with ⟨e,_⟩ | ⟨_,h2⟩
  ·exact (none_ id q e a3).elim
  ·exact h.kE id o q h2 a2 a3
 ·rcases get id o a1 with ⟨e,_⟩ | ⟨_,h2⟩
  ·exact (none_ id q e a4).elim
  ·exact .inr ⟨id,o,q,h2,a2,a3,a4,rfl⟩
 ·show σ.next<=τ.next+1;omega
 ·rintro id (⟨q,hq⟩ | hg)
  ·exact .inl (.inl ⟨q,hq⟩)
  ·have hg':(Nat.beq id σ.next || η.gh id)=true:=hg
   rw [lS] at hg';rcases hg' with hg' | hg'
   ·have e:=bG hg'
    right;show σ.next<=id/\id < τ.next+1;omega
   ·exact .inl (.inr hg')
theorem wC:∀ (f:Nat) {m n:Nat} {xs ys:List GV},sG f m n=true->aF.val m=some (.l xs)->aF.val n=some (.l ys)->xs.length=ys.length
 | 0,m,n,xs,ys,h,h1,h2=>by
   have:=bG h;subst this;rw [h1] at h2;cases h2;rfl
 | f+1,m,n,xs,ys,h,h1,h2=>by
   simp only [sG,lS] at h;rcases h with h | h
   ·have:=bG h;subst this
    rw [h1] at h2;cases h2;rfl
   ·split at h
    ·next z o a i vs hn=>
     obtain ⟨g,g1,g2⟩:=aF.oI m _ hn (by simp);rw [h1] at g1;cases g1;simp only [Nd.den] at g2;split at g2
     ·next zs k j gs e1 e2 e3=>
      split at g2
      ·split at g2
       ·split at g2
        ·obtain ⟨y,_,e⟩:=aW.1 g2
         cases e;rw [List.length_set];exact wC f h e1 h2
        ·cases g2
       ·cases g2
      ·cases g2
     ·cases g2
    ·next a b hn=>
     obtain ⟨g,g1,g2⟩:=aF.oI m _ hn (by simp);rw [h1] at g1;cases g1;simp only [Nd.den] at g2;split at g2
     ·next zs us e1 e2=>
      split at g2
      ·next hl=>cases g2;rw [hl];exact wC f h e1 h2
      ·cases g2
     ·cases g2
    ·cases h
theorem aoY:∀ (f:Nat) {m n:Nat} {g:GV} {ys:List GV},sG f m n=true->aF.val m=some g->aF.val n=some (.l ys)->∃xs,g=.l xs
 | 0,m,n,g,ys,h,h1,h2=>by
   have:=bG h;subst this;rw [h1] at h2;cases h2;exact ⟨_,rfl⟩
 | f+1,m,n,g,ys,h,h1,h2=>by
   simp only [sG,lS] at h;rcases h with h | h
   ·have:=bG h;subst this
    rw [h1] at h2;cases h2;exact ⟨_,rfl⟩
   ·split at h
    ·next z o a i vs hn=>
     obtain ⟨g',g1,g2⟩:=aF.oI m _ hn (by simp);rw [h1] at g1;cases g1;simp only [Nd.den] at g2;split at g2
     ·split at g2
      ·split at g2
       ·split at g2
        ·obtain ⟨y,_,e⟩:=aW.1 g2
         exact ⟨_,e.symm⟩
        ·cases g2
       ·cases g2
      ·cases g2
     ·cases g2
    ·next a b hn=>
     obtain ⟨g',g1,g2⟩:=aF.oI m _ hn (by simp);rw [h1] at g1;cases g1;simp only [Nd.den] at g2;split at g2
     ·split at g2
      ·cases g2;exact ⟨_,rfl⟩
      ·cases g2
     ·cases g2
    ·cases h
theorem Bq {agg:Bool} {size:Nat} (h1:agg=false->size=1):∀ (n:Nat) {cs:List AV} {ns:List Nat} {vs:List Value},elemsOf agg size n cs=some ns->ay η cs vs->cs.length=n * size->
 ∃gs,valsOf aF.val ns=some gs/\gs.length=n/\ay η (bH gs) vs/\cs.all AV.lM=true/\∀x∈gs,x.cells.length=size/\x.cells.all GV.scalar=true
 | 0,cs,ns,vs,h,hv,hl=>by
   simp only [elemsOf,aT] at h;subst h;have:cs=[]:=jd (by simpa using hl);subst this;exact ⟨[],rfl,rfl,by simpa [bH,dF] using hv,rfl,by simp⟩
 | n+1,cs,ns,vs,h,hv,hl=>by
   simp only [elemsOf] at h;rw [oN,Dk] at hl;split at h
   ·next a r ha hr=>
    cases h;obtain ⟨gs,k1,k2,k3,k4,k5⟩:=Bq h1 n hr (hv.drop size) (by simp;omega);have hcs:cs=cs.take size++cs.drop size:=(xR _ _).symm;have hvs:vs=vs.take size++vs.drop size:=(xR _ _).symm;cases agg with
    | true=>
      simp only [if_true] at ha;have hagg:VR η (.agg (cs.take size)) (.agg ⟨vs.take size⟩):=by simp only [VR];exact ⟨_,rfl,hv.take size⟩
      obtain ⟨l,gl,e1,e2,e3,e4,e5⟩:=Gn ha hagg;cases e1;refine ⟨.g gl::gs,by simp only [valsOf,e3,k1],by simp [k2], ?_, ?_, ?_⟩
      ·have:bH (.g gl::gs)=dF gl++bH gs:=by unfold bH;rw [jl,D9];rfl
       rw [this,hvs];refine ay.append ?_ k3;simp only [GR] at e5;obtain ⟨us,eu,hu⟩:=e5;cases eu;exact (l9 _ _).1 hu
      ·rw [hcs,Ye,aI]
       refine ⟨?_,k4⟩;unfold Ba at ha;simp only at ha;split at ha
       ·next ns hns=>exact Vw hns
       ·cases ha
      ·intro x hx
       rcases dh.1 hx with rfl | hx
       ·exact ⟨by show gl.length=size;rw [e2,jP];omega,e4⟩
       ·exact k5 x hx
    | false=>
      have:=h1 rfl;subst this;simp only [gU,if_false] at ha;cases cs with
      | nil=>simp at hl
      | cons c cs=>
        simp only [Ym,zi] at ha;simp only [ay] at hv;obtain ⟨x,xs,rfl,hx,hxs⟩:=hv;obtain ⟨g,e1,e2,e3⟩:=kK ha hx;refine ⟨g::gs,by simp only [valsOf,e1,k1],by simp [k2], ?_, ?_, ?_⟩
        ·have:bH (g::gs)=dF g.cells++bH gs:=by unfold bH;rw [jl,D9]
         rw [this,GV.Fj e2];simp only [dF,eG,dA];exact ay.cons ((jU _ _).1 e3) (by simpa using k3)
        ·simp only [rF,aI]
         exact ⟨by cases c<;>simp [ig] at ha<;>rfl,by simpa using k4⟩
        ·intro x hx
         rcases dh.1 hx with rfl | hx
         ·rw [GV.Fj e2];exact ⟨rfl,by simp [e2]⟩
         ·exact k5 x hx
   ·cases h
theorem akR (h:SR P η σ w) {e:TypeId} {x:AV} {b size:Nat} {u:Value} {t1 e':TypeId} {xs:List GV} (hl:listOf P σ e x=some b) (hx:VR η x u) (ht:P.underlying t1=some (.slice e')) (hn:sizeT P e=some size) (hv:aF.val b=some (.l xs)) (hs:xs.all (GV.fJ size)=true) :
 ∃ys,Src P size t1 u xs.length ys w/\ay η (bH xs) ys:=by
 have hT:BO P t1=true:=by unfold BO;rw [ht]
 have hsz:∀z∈xs,z.cells.length=size/\z.cells.all GV.scalar=true:=by
  intro z hz;rw [List.all_eq_true] at hs;have:=hs z hz;unfold GV.fJ at this;rw [aI] at this;exact ⟨Nat.eq_of_beq_eq_true this.1,this.2⟩
 have hone:(bH xs).all AV.lM=true:=by
  unfold bH;refine Uj ?_;rw [List.all_eq_true];intro g hg;obtain ⟨z,hz,hgz⟩:=Yp.1 hg;exact List.all_eq_true.1 (hsz z hz).2 g hgz
 unfold listOf at hl;split at hl
 ·next n=>
  cases hl;simp only [VR] at hx;obtain ⟨g,h1,h2,h3⟩:=hx;rw [hv] at h1;cases h1;have hsrc:wG σ size (.ro (dF xs))=some (xs.length,bH xs):=by
   simp only [wG];rw [aj,kJ,Ui];rfl;rw [List.all_eq_true];intro a ha;rw [uf] at ha;obtain ⟨z,hz,rfl⟩:=mF.1 ha;rw [Ht,kJ,(hsz z hz).1];simp
  exact src_ok h hT hsrc ((jU (.l xs) u).1 h3) hone
 ·obtain ⟨g,h1,h2⟩:=fK hl
  rw [hv] at h1;cases h1;simp only [Nd.den,valsOf,gI,aT,GV.l.injEq] at h2;subst h2;exact src_ok h hT (size:=size) (n:=0) (l:=[]) rfl hx rfl
 ·next id n=>
  split at hl
  ·next m et _ hg=>
   split at hl
   ·next hc=>
    cases hl;rw [aI] at hc;simp only [VR] at hx;obtain ⟨ys,h1,hx⟩:=hx;have hlen:=wC 100 hc.2 hv h1;rcases hx with ⟨q,hq,hle,rfl⟩ | ⟨_,rfl,rfl⟩
    ·obtain ⟨xs',k1,k2,k3,k4,k5,k6,_,hS⟩:=Ja h hg hq
     rw [hv] at k1;cases k1;have e:=bG hc.1;subst e;rw [hn] at k5;cases k5;have hsrc:wG (jO σ id xs e) q.es (.sl id 0 xs.length none)=some (xs.length,bH xs):=by
      simp only [wG,Aq];have:takeN (bH xs) 0 (xs.length * q.es)=some (bH xs):=by
       have hl:(bH xs).length=xs.length * q.es:=by rw [bH,kJ,J8 k2]
       unfold takeN;rw [eP,jJ (by omega),aj hl]
      rw [this];rfl
     rw [<- hlen] at hle ⊢;exact src_ok hS hT hsrc (by simp only [VR];exact ⟨q,hq,by simpa using hle,by simp⟩) hone
    ·have:xs=[]:=jd (by simpa using hlen)
     subst this;exact src_ok h hT (a:=.dO) (size:=size) (n:=0) (l:=[]) rfl (by simp only [VR]) rfl
   ·cases hl
  ·cases hl
 ·next id off len cap=>
  split at hl
  ·next c et rE opn size' agg hg hn' ha=>
   rw [hn] at hn';cases hn';split at hl
   ·next hc=>
    rw [aI,lS,aI] at hc;split at hl
    ·next cs hcs=>
     split at hl
     ·next ns hns=>
      have hagg:agg=false->size=1:=by
       intro e;subst e;rcases hc.2 with h1 | h1
       ·simp at h1
       ·exact bG h1
      obtain ⟨g,g1,g2⟩:=fK hl;rw [hv] at g1;cases g1;simp only [VR] at hx;obtain ⟨q,hq,hle,rfl⟩:=hx;obtain ⟨q',hq',ws,elem,fr,hb,rr⟩:=h.obj _ _ hg rfl;rw [hq] at hq';cases hq';have hlc:=(pF hcs).2.1;obtain ⟨gs,k1,k2,k3,k4,_⟩:=Bq (η:=η) hagg len hns (rr.wH hcs) hlc;simp only [Nd.den,k1,gI,aT,GV.l.injEq] at g2;subst g2;obtain ⟨ys,j1,j2⟩:=src_ok h hT (size:=size) (n:=len) (l:=cs) (a:=.sl id off len cap) (by simp only [wG,hg,hcs,gI]) (by simp only [VR];exact ⟨q,hq,hle,rfl⟩) k4;obtain ⟨gs',k1',k2',O3,_⟩:=Bq (η:=η) hagg len hns j2 hlc;rw [k1] at k1';cases k1';rw [k2];exact ⟨ys,j1,O3⟩
     ·cases hl
    ·cases hl
   ·cases hl
  ·cases hl
 ·cases hl
theorem Zc (s:List UInt8):bH (bK s)=tN s:=by
 unfold bH bK tN;induction s with
 | nil=>rfl
 | cons c s ih=>simp only [jq,jl,GV.cells,eG,dA,dF,jL,ih]
end
end Go.aN
