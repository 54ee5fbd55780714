/- Values that are named by nodes: numbers, texts, truth values, parts of what nobody changes. -/
import Derived.Test.YtjglbndncdkhhaaGreatDoorAbsC
import Derived.Laws.StructEq
namespace Go.aN
set_option linter.unusedSimpArgs false
noncomputable section
variable [aF]
set_option linter.unusedSectionVars false
set_option linter.unusedVariables false
variable {P:Program} {η:Env} {σ σ':ak} {w:World}
mutual
def jM:GV->AV
 | .b x=>.b x
 | .i k n=>.i k n
 | .s x=>.s x
 | .g cs=>.agg (cu cs)
 | .l xs=>.ro (cu xs)
def cu:List GV->List AV
 | []=>[]
 | a::l=>jM a::cu l
end
theorem tJ:∀l:List GV,cu l=l.map jM
 | []=>rfl
 | a::l=>by simp [cu,tJ l]
theorem jX (l:List GV):(cu l).length=l.length:=by rw [tJ];simp
theorem JB (l:List GV) (k:Nat):(cu l)[k]? = (l[k]?).map jM:=by rw [tJ];simp
mutual
theorem jU:∀ (g:GV) (v:Value),GR η.ro g v↔VR η (jM g) v
 | .b _,_=>by simp only [GR,VR,jM]
 | .i _ _,_=>by simp only [GR,VR,jM]
 | .s _,_=>by simp only [GR,VR,jM]
 | .g cs,v=>by
   simp only [GR,VR,jM];constructor
   ·rintro ⟨vs,e,h⟩;exact ⟨vs,e,(lV cs vs).1 h⟩
   ·rintro ⟨vs,e,h⟩;exact ⟨vs,e,(lV cs vs).2 h⟩
 | .l xs,v=>by
   simp only [GR,VR,jM,jX];have hn:cu xs=[]↔xs=[]:=by cases xs<;>simp [cu]
   rw [hn];constructor
   ·rintro (h | ⟨bl,off,c,ys,sz,e,hc,h,h1,h2⟩)
    ·exact .inl h
    ·exact .inr ⟨bl,off,c,ys,sz,e,hc,(lV xs ys).1 h,h1,λhne=>h2 (λe=>hne (hn.2 e))⟩
   ·rintro (h | ⟨bl,off,c,ys,sz,e,hc,h,h1,h2⟩)
    ·exact .inl h
    ·exact .inr ⟨bl,off,c,ys,sz,e,hc,(lV xs ys).2 h,h1,λhne=>h2 (λe=>hne (hn.1 e))⟩
theorem lV:∀ (l:List GV) (vs:List Value),aO η.ro l vs↔ay η (cu l) vs
 | [],_=>by simp only [aO,ay,cu]
 | a::l,vs=>by
   simp only [aO,ay,cu];constructor
   ·rintro ⟨x,xs,e,h1,h2⟩;exact ⟨x,xs,e,(jU a x).1 h1,(lV l xs).1 h2⟩
   ·rintro ⟨x,xs,e,h1,h2⟩;exact ⟨x,xs,e,(jU a x).2 h1,(lV l xs).2 h2⟩
end
theorem Gs (g:GV):(jM g).cells=cu g.cells:=by cases g<;>simp [jM,cu,AV.cells,GV.cells]
theorem Us:∀l:List GV,(cu l).flatMap AV.cells=cu (l.flatMap GV.cells)
 | []=>rfl
 | a::l=>by
   simp only [cu,ji,Us l,Gs];rw [tJ,tJ,tJ,sD]
theorem GR.cells {g:GV} {v:Value} (h:GR η.ro g v):ay η (cu g.cells) v.cells.toList:=by rw [<- Gs];exact wU ((jU g v).1 h)
theorem GR.ZF {g:GV} {v:Value} (h:GR η.ro g v):g.cells.length=v.cells.size:=by
 have:=h.cells.length;rw [jX] at this;simpa using this
theorem GV.EI {g:GV} (h:g.scalar=true):g.cells=[g]:=by cases g<;>first | rfl | (cases h)
theorem aiQ {g:GV} (h:g.scalar=true):(jM g).lu=true:=by cases g<;>first | rfl | (cases h)
theorem Ut:∀ {l:List GV},l.all GV.scalar=true->(cu l).all AV.lu=true
 | [],_=>rfl
 | a::l,h=>by
   simp only [qP,aI] at h;simp only [cu,qP,aI];exact ⟨aiQ h.1,Ut h.2⟩
theorem aO.length {ro:Nat->Option Obj}:∀ {l:List GV} {vs:List Value},aO ro l vs->l.length=vs.length
 | [],vs,h=>by simp only [aO] at h;subst h;rfl
 | a::l,vs,h=>by
   simp only [aO] at h;obtain ⟨x,xs,rfl,_,h2⟩:=h;simp [aO.length h2]
theorem aO.at {ro:Nat->Option Obj}:∀ {l:List GV} {vs:List Value},aO ro l vs->∀ {k:Nat} {a:GV},l[k]? = some a->∃x,vs[k]? = some x/\GR ro a x
 | [],vs,h,k,a,hk=>by simp at hk
 | b::l,vs,h,k,a,hk=>by
   simp only [aO] at h;obtain ⟨x,xs,rfl,h1,h2⟩:=h;cases k with
   | zero=>simp at hk;subst hk;exact ⟨x,by simp,h1⟩
   | succ k=>obtain ⟨y,hy,hv⟩:=aO.at h2 (by simpa using hk);exact ⟨y,by simpa using hy,hv⟩
theorem fF {x:Nd} {n:Nat} (h:dW x=some n):∃g,aF.val n=some g/\x.den aF.I aF.val=some g:=by
 obtain ⟨h1,h2⟩:=aik h;exact aF.nZ n x h1 h2
theorem agv {m m':Nat} (h:Tv m m'=true):(∃k a b,aF.val m=some (.i k a)/\aF.val m'=some (.i k b)/\a≠b)\/(∃a b,aF.val m=some (.s a)/\aF.val m'=some (.s b)/\a≠b):=by
 unfold Tv at h;split at h
 ·next k a k' b h1 h2=>
  rw [aI] at h;have:=O6 h.1;subst this;obtain ⟨g,e1,e2⟩:=aF.nZ _ _ h1 (by simp);obtain ⟨g',e3,e4⟩:=aF.nZ _ _ h2 (by simp);simp only [Nd.den,aT] at e2 e4;subst e2;subst e4;refine .inl ⟨k,a,b,e1,e3,λe=>?_⟩;subst e;rw [(abG (a:=a) (b:=a)).2 rfl] at h;simp at h
 ·next a b h1 h2=>
  obtain ⟨g,e1,e2⟩:=aF.nZ _ _ h1 (by simp);obtain ⟨g',e3,e4⟩:=aF.nZ _ _ h2 (by simp);simp only [Nd.den,aT] at e2 e4;subst e2;subst e4;refine .inr ⟨a,b,e1,e3,λe=>?_⟩;subst e;rw [(Zr (l:=a) (m:=a)).2 rfl] at h;simp at h
 ·cases h
theorem VN {n m:Nat}:∀ {l:List (Nat×Bool)},(∀p∈l,aF.val p.1=some (.b p.2))->BX n m l=true->(∃k a b,aF.val n=some (.i k b)/\aF.val m=some (.i k a)/\a≠b)\/(∃a b,aF.val n=some (.s b)/\aF.val m=some (.s a)/\a≠b)
 | [],_,h=>by simp [BX] at h
 | p::l,hl,h=>by
   simp only [BX,lJ] at h;rcases h with h | h
   ·cases hp:p.2 with
    | false=>rw [hp] at h;simp at h
    | true=>
      rw [hp] at h;simp only [cond_true] at h;split at h
      ·next n' m' hn=>
       rw [aI] at h;have e:=bn h.1;subst e;obtain ⟨g,e1,e2⟩:=aF.nZ _ _ hn (by simp);have e3:=hl p (by simp);rw [hp,e1] at e3;cases e3;simp only [Nd.den] at e2;rcases agv h.2 with ⟨k,a,b,q1,q2,q3⟩ | ⟨a,b,q1,q2,q3⟩
       ·rw [q2] at e2
        split at e2
        ·next x y hx hy=>
         cases hy;cases x<;>simp only [gq,fG,reduceCtorEq] at e2
         split at e2
         ·next e4=>
          subst e4;simp only [aT,GV.b.injEq,beq_iff_eq] at e2;subst e2;exact .inl ⟨_,a,_,hx,q1,q3⟩
         ·cases e2
        ·cases e2
       ·rw [q2] at e2
        split at e2
        ·next x y hx hy=>
         cases hy;cases x<;>simp only [gq,uq,reduceCtorEq] at e2
         simp only [aT,GV.b.injEq,beq_iff_eq] at e2;subst e2;exact .inr ⟨a,_,hx,q1,q3⟩
        ·cases e2
      ·cases h
   ·exact VN (λq hq=>hl q (by simp [hq])) h
theorem ZU {c n m:Nat} {b:Bool}:∀ {l:List (Nat×Bool)},(∀p∈l,aF.val p.1=some (.b p.2))->FX c n m l=some b->∃op x y,rJ op=c/\aF.val n=some x/\aF.val m=some y/\gq op x y=some (.b b)
 | [],_,h=>by simp [FX] at h
 | p::l,hl,h=>by
   have ih:=λh=>ZU (c:=c) (n:=n) (m:=m) (b:=b) (l:=l) (λq hq=>hl q (by simp [hq])) h;simp only [FX] at h;split at h
   ·next op n' m' hn=>
    cases hc:Nat.beq n n'&&Nat.beq m m'&&Nat.beq (rJ op) c with
    | false=>rw [hc] at h;exact ih h
    | true=>
      rw [hc] at h;simp only [cond_true,aT] at h;rw [aI,aI] at hc;have e1:=bn hc.1.1;have e2:=bn hc.1.2;have e3:=bn hc.2;subst e1;subst e2;obtain ⟨g,g1,g2⟩:=aF.nZ _ _ hn (by simp);have g3:=hl p (by simp);rw [g1,h] at g3;cases g3;simp only [Nd.den] at g2;split at g2
      ·next x y hx hy=>exact ⟨op,x,y,e3,hx,hy,g2⟩
      ·cases g2
   ·exact ih h
theorem agu {op op':BinOp} {x y g:GV} {r:Bool} (h:Bh op=some op') (h1:gq op' x y=some (.b r)) (h2:gq op x y=some g):g=.b (!r):=by
 cases x with
 | i k a=>
   cases y with
   | i k' b=>
     by_cases e:k=k'
     ·subst e
      unfold Bh at h;split at h<;>cases h<;>simp only [gq,fG,if_true,aT,GV.b.injEq] at h1 h2<;>rw [<- h1,<- h2]<;>congr 1<;>rw [oU]<;>simp<;>omega
     ·unfold Bh at h
      split at h<;>cases h<;>simp only [gq,ah e] at h1<;>cases h1
   | _=>unfold Bh at h;split at h<;>cases h<;>simp [gq] at h1
 | s a=>
   cases y with
   | s b=>
     unfold Bh at h;split at h<;>cases h<;>simp only [gq,uq,aT,GV.b.injEq] at h1 h2<;>rw [<- h1,<- h2]<;>simp
   | _=>unfold Bh at h;split at h<;>cases h<;>simp [gq] at h1
 | _=>unfold Bh at h;split at h<;>cases h<;>simp [gq] at h1
theorem Xr {op:BinOp} {n m:Nat} {b:Bool} {g:GV} (h:La op n m=some b) (hd:(Nd.bin op n m).den aF.I aF.val=some g):g=.b b:=by
 unfold La at h;split at h
 ·next op' ho=>
  obtain ⟨r,h1,rfl⟩:=aW.1 h;obtain ⟨op2,x,y,e,hx,hy,h2⟩:=ZU (λp hp=>aF.yt p.1 p.2 hp) h1;have:=acY.1 e;subst this;simp only [Nd.den,hx,hy] at hd;exact agu ho h2 hd
 ·cases h
theorem anm {x:Nd} {b:Bool} {g:GV} (h:Xt x=some b) (hd:x.den aF.I aF.val=some g):g=.b b:=by
 unfold Xt at h;split at h
 ·next n m=>
  cases hk:BX n m fV.dec with
  | false=>rw [hk] at h;simp only [cond_false] at h;exact Xr h hd
  | true=>
    rw [hk] at h;cases h;rcases VN (λp hp=>aF.yt p.1 p.2 hp) hk with ⟨k,a,b,q1,q2,q3⟩ | ⟨a,b,q1,q2,q3⟩
    ·simp only [Nd.den,q1,q2,gq,fG,if_true,aT] at hd
     rw [<- hd];simp [Ne.symm q3]
    ·simp only [Nd.den,q1,q2,gq,uq,aT] at hd
     rw [<- hd];simp [Ne.symm q3]
 ·next n m=>
  cases hk:BX n m fV.dec with
  | false=>rw [hk] at h;simp only [cond_false] at h;exact Xr h hd
  | true=>
    rw [hk] at h;cases h;rcases VN (λp hp=>aF.yt p.1 p.2 hp) hk with ⟨k,a,b,q1,q2,q3⟩ | ⟨a,b,q1,q2,q3⟩
    ·simp only [Nd.den,q1,q2,gq,fG,if_true,aT] at hd
     rw [<- hd];simp [Ne.symm q3]
    ·simp only [Nd.den,q1,q2,gq,uq,aT] at hd
     rw [<- hd];simp [Ne.symm q3]
 ·exact Xr h hd
 ·cases h
theorem kH {x:Nd} {r:AV} (h:jB x=some r):∃n g,aF.val n=some g/\x.den aF.I aF.val=some g/\∀v,g.scalar=true->GR η.ro g v->VR η r v:=by
 unfold jB at h;split at h
 ·next n hn=>
  obtain ⟨g,h1,h2⟩:=fF hn;refine ⟨n,g,h1,h2,λv hs hv=>?_⟩;split at h
  ·next b hb=>
   cases h;have:=aF.yt n b (Jp hb);rw [h1] at this;cases this;simp only [GR] at hv;simp only [VR];exact hv
  ·split at h
   ·next b hb=>
    cases h;have:=anm hb h2;subst this;simp only [GR] at hv;simp only [VR];exact hv
   ·cases h
    simp only [VR];exact ⟨g,h1,hs,hv⟩
 ·cases h
theorem DJ {a:Option AV} {r:AV} (h:dB a=some r):∃v,a=some v/\∀ (η:Env) (x:Value),VR η v x->VR η r x:=by
 unfold dB at h;split at h
 ·next n=>
  split at h
  ·next b hb=>
   cases h;refine ⟨_,rfl,λη x hx=>?_⟩;have hd:=aF.yt n b (Jp hb);simp only [VR] at hx;obtain ⟨g,h1,_,h2⟩:=hx;rw [hd] at h1;cases h1;simp only [GR] at h2;subst h2;simp only [VR]
  ·cases h
 ·exact ⟨r,h,λ_ _ h=>h⟩
theorem ku {a:AV} {n:Nat} {v:Value} (h:gZ a=some n) (hv:VR η a v):∃g,aF.val n=some g/\g.scalar=true/\GR η.ro g v:=by
 cases a<;>simp only [gZ,reduceCtorEq,aT] at h
 case nd m=>subst h;simpa only [VR] using hv
 case i k m=>obtain ⟨g,h1,h2⟩:=fF h;simp only [Nd.den,aT] at h2;subst h2;exact ⟨_,h1,rfl,by simpa only [VR,GR] using hv⟩
 case b x=>obtain ⟨g,h1,h2⟩:=fF h;simp only [Nd.den,aT] at h2;subst h2;exact ⟨_,h1,rfl,by simpa only [VR,GR] using hv⟩
 case s x=>obtain ⟨g,h1,h2⟩:=fF h;simp only [Nd.den,aT] at h2;subst h2;exact ⟨_,h1,rfl,by simpa only [VR,GR] using hv⟩
 case dL=>obtain ⟨g,h1,h2⟩:=fF h;simp only [Nd.den,valsOf,gG,aT] at h2;subst h2;exact ⟨_,h1,rfl,by simp only [VR] at hv;simp only [GR];exact .inl ⟨trivial,_,hv⟩⟩
theorem PY:∀ {l:List AV} {ns:List Nat} {vs:List Value},nodesOf l=some ns->ay η l vs->∃gs,valsOf aF.val ns=some gs/\gs.all GV.scalar=true/\aO η.ro gs vs
 | [],ns,vs,h,hv=>by simp only [nodesOf,aT] at h;subst h;simp only [ay] at hv;subst hv;exact ⟨[],rfl,rfl,by simp [aO]⟩
 | a::l,ns,vs,h,hv=>by
   simp only [nodesOf] at h;split at h
   ·next n r hn hr=>
    cases h;simp only [ay] at hv;obtain ⟨x,xs,rfl,h1,h2⟩:=hv;obtain ⟨g,g1,g2,g3⟩:=ku hn h1;obtain ⟨gs,k1,k2,k3⟩:=PY hr h2;exact ⟨g::gs,by simp only [valsOf,g1,k1],by simp [g2,k2],by simp only [aO];exact ⟨x,xs,rfl,g3,k3⟩⟩
   ·cases h
theorem FI {a:AV} {n:Nat} {v:Value} (h:AZ a=some n) (hv:VR η a v):∃l gs,a=.agg l/\gs.length=l.length/\aF.val n=some (.g gs)/\gs.all GV.scalar=true/\GR η.ro (.g gs) v:=by
 unfold AZ at h;split at h
 ·next l=>
  split at h
  ·next ns hns=>
   simp only [VR] at hv;obtain ⟨vs,rfl,hvs⟩:=hv;obtain ⟨gs,g1,g2,g3⟩:=PY hns hvs;obtain ⟨g,h1,h2⟩:=fF h;simp only [Nd.den,g1,g2,if_true,aT] at h2;subst h2;exact ⟨l,gs,rfl,by rw [g3.length,hvs.length],h1,g2,by simp only [GR];exact ⟨vs,rfl,g3⟩⟩
  ·cases h
 ·cases h
theorem anJ {op:BinOp} {t:TypeId} {x y:Operand} {k k':IntKind} {a b:Int} {w:World}:(eqGuard op t x y (.int k a) (.int k' b)).run P w=.ok () w:=by
 unfold eqGuard;cases op<;>rfl
theorem anK {op:BinOp} {t:TypeId} {x y:Operand} {a b:ByteArray} {w:World}:(eqGuard op t x y (.string a) (.string b)).run P w=.ok () w:=by
 unfold eqGuard;cases op<;>rfl
theorem ajM {op:BinOp} {t:TypeId} {k:IntKind} {a b:Int} {g:GV} (h1:op≠.shl) (h2:op≠.shr) (h:fG op k a b=some g):g.scalar=true/\∃z,(binOp op t (.int k a) (.int k b)).run P w=.ok z w/\GR η.ro g z:=by
 cases op<;>simp only [fG,reduceCtorEq] at h
 all_goals first | (exact absurd rfl h1) | (exact absurd rfl h2) | (cases h;done) | skip
 all_goals first
  | (cases h;refine ⟨rfl, ?_⟩;simp only [binOp,ne_eq,not_true_eq_false,if_false,Op.intArith,Op.intCmp,Op.intBits];exact ⟨_,rfl,by simp only [GR]⟩)
  | (split at h;cases h;cases h;next hb=>refine ⟨rfl, ?_⟩;simp only [binOp,ne_eq,not_true_eq_false,if_false,Op.intDiv,hb];exact ⟨_,rfl,by simp only [GR]⟩)
theorem adV {op:BinOp} {t:TypeId} {k k':IntKind} {a b:Int} {g:GV} (ho:op=.shl\/op=.shr) (h:mM op k a b=some g):g.scalar=true/\∃z,(binOp op t (.int k a) (.int k' b)).run P w=.ok z w/\GR η.ro g z:=by
 unfold mM at h;split at h
 ·cases h
 ·next hb=>
  rcases ho with rfl | rfl
  ·cases h;refine ⟨rfl, ?_⟩;simp only [binOp,Op.shift,ah hb];exact ⟨_,rfl,by simp only [GR]⟩
  ·cases h;refine ⟨rfl, ?_⟩;simp only [binOp,Op.shift,ah hb];exact ⟨_,rfl,by simp only [GR]⟩
theorem aoS {op:BinOp} {t:TypeId} {a b:List UInt8} {g:GV} (h:uq op a b=some g):g.scalar=true/\∃z,(binOp op t (.string ⟨⟨a⟩⟩) (.string ⟨⟨b⟩⟩)).run P w=.ok z w/\GR η.ro g z:=by
 cases op<;>simp only [uq,reduceCtorEq] at h
 all_goals first | (cases h;done) | skip
 all_goals first | (cases h;refine ⟨rfl, ?_⟩;simp only [binOp,Op.stringOp,toList_mk];exact ⟨_,rfl,by simp only [GR]⟩) | skip
 split at h
 ·next hb=>
  cases h;have:¬ (((⟨⟨a⟩⟩:ByteArray).size+(⟨⟨b⟩⟩:ByteArray).size:Nat):Int) > IntKind.i64.max:=by rw [strSize,strSize];omega
  refine ⟨rfl, ?_⟩;simp only [binOp,Op.stringOp,ah this,Y9];exact ⟨_,rfl,by simp only [GR]⟩
 ·cases h
theorem afE {op:BinOp} {t:TypeId} {x y:Operand} {g1 g2 g:GV} {u u':Value} (h:gq op g1 g2=some g) (h1:GR η.ro g1 u) (h2:GR η.ro g2 u') :
 g.scalar=true/\∃z,(do eqGuard op t x y u u';binOp op t u u':Sem Value).run P w=.ok z w/\GR η.ro g z:=by
 unfold gq at h;split at h
 ·next k a k' b=>
  simp only [GR] at h1 h2;subst h1;subst h2;simp only [aQ,anJ,aP];split at h
  ·exact adV (.inl rfl) h
  ·exact adV (.inr rfl) h
  ·next hn1 hn2=>
   split at h
   ·next hk=>subst hk;exact ajM hn1 hn2 h
   ·cases h
 ·next a b=>
  simp only [GR] at h1 h2;subst h1;subst h2;simp only [aQ,anK,aP];exact aoS h
 ·cases h
theorem aay {t:TypeId} (hu:P.underlying t=some .bool) (a b:Bool):(Op.equal t (.bool a) (.bool b)).run P w=.ok (a==b) w:=by
 have H:∀n,(Op.equalIn (n+1) t (.bool a) (.bool b)).run P w=.ok (a==b) w:=λn=>by
  simp only [Op.equalIn,aQ,aV hu,aP,aZ]
 exact H 9999
theorem afC {op:BinOp} {t:TypeId} {x y:Operand} {g1 g2 g:GV} {u u':Value} (hu:P.underlying t=some .bool) (h:Nz op g1 g2=some g) (h1:GR η.ro g1 u) (h2:GR η.ro g2 u') :
 g.scalar=true/\∃z,(do eqGuard op t x y u u';binOp op t u u':Sem Value).run P w=.ok z w/\GR η.ro g z:=by
 unfold Nz at h;split at h
 ·next a b=>
  simp only [GR] at h1 h2;subst h1;subst h2;split at h
  ·cases h;exact ⟨rfl,_,oC (aay hu a b) rfl rfl,by simp only [GR]⟩
  ·cases h;exact ⟨rfl,_,oD (aay hu a b) rfl rfl,by simp only [GR]⟩
  ·cases h
 ·cases h
theorem aaz {w:World} (d:Nat):∀ (fs:List Field) (k:Nat) (ks:List Nat) (xs ys:List Value) (gs hs:List GV) (r:Bool),Ht P fs k=some ks->aO η.ro gs (xs.drop k)->aO η.ro hs (ys.drop k)->lS ks gs hs=some r->
 (Op.eqFields (d+1) ⟨xs⟩ ⟨ys⟩ fs).run P w=.ok r w
 | [],k,ks,xs,ys,gs,hs,r,hp,_,_,he=>by
   simp only [Ht,aT] at hp;subst hp;cases gs with
   | cons g gs=>simp [lS] at he
   | nil=>
     cases hs with
     | cons g gs=>simp [lS] at he
     | nil=>simp only [lS,aT] at he;subst he;simp [Op.eqFields]
 | f::fs,k,ks,xs,ys,gs,hs,r,hp,hx,hy,he=>by
   simp only [Ht] at hp;split at hp
   ·next hc=>
    rw [aI,uz] at hc;obtain ⟨hn,ho⟩:=hc;have ho':=bn ho;split at hp
    ·next a ks' ht hp'=>
     cases hp;cases gs with
     | nil=>simp [lS] at he
     | cons g gs=>
     cases hs with
     | nil=>simp [lS] at he
     | cons g' hs=>
     simp only [aO] at hx hy;obtain ⟨u,us,hxe,hu,hus⟩:=hx;obtain ⟨u',us',hye,hu',ajA⟩:=hy;have hxk:xs[k]? = some u:=by rw [<- List.head?_drop,hxe];rfl
     have hyk:ys[k]? = some u':=by rw [<- List.head?_drop,hye];rfl
     have ajB:us=xs.drop (k+1):=by
      have:=rC (List.drop 1) hxe;simpa [nS] using this.symm
     have ajC:us'=ys.drop (k+1):=by
      have:=rC (List.drop 1) hye;simpa [nS] using this.symm
     have hagg:mD P f.type=some false:=by
      unfold WW at ht;unfold mD;split at ht<;>first | (next h=>rw [h]) | (cases ht)
     have hpart:∀ (zs:List Value) z,zs[k]? = some z->(part f.type ⟨zs⟩ f.offset).run P w=.ok z w:=by
      intro zs z hz;unfold part;simp only [aQ,EH hagg,aP,gU,if_false];have:(⟨zs⟩:Array Value)[f.offset]? = some z:=by rw [ho'];simpa using hz
      simp only [this,aZ]
     have hne:(f.name ≠ "_"):=by intro e;rw [e] at hn;simp at hn
     have fin:∀b r',(Op.equalIn (d+1) f.type u u').run P w=.ok b w->lS ks' gs hs=some r'->(Op.eqFields (d+1) ⟨xs⟩ ⟨ys⟩ (f::fs)).run P w=.ok (b&&r') w:=by
      intro b r' hb hr';have hrec:=aaz (w:=w) d fs (k+1) ks' xs ys gs hs r' hp' (by rw [<- ajB];exact hus) (by rw [<- ajC];exact ajA) hr';simp only [Op.eqFields,aj hne,aQ,hpart _ _ hxk,hpart _ _ hyk,aP,hb];cases b with
      | true=>simpa using hrec
      | false=>simp
     unfold WW at ht;split at ht
     ·next kk hk=>
      cases ht;cases g<;>cases g'<;>simp only [lS,reduceCtorEq] at he
      split at he
      ·next hkk=>
       subst hkk;obtain ⟨r',hr',rfl⟩:=aW.1 he;simp only [GR] at hu hu';subst hu;subst hu';exact fin _ _ (run_equalIn_int w d _ _ _ _ _ hk) hr'
      ·cases he
     ·next hk=>
      cases ht;cases g<;>cases g'<;>simp only [lS,reduceCtorEq] at he
      obtain ⟨r',hr',rfl⟩:=aW.1 he;simp only [GR] at hu hu';subst hu;subst hu';refine fin _ _ ?_ hr';rw [run_equalIn_string w d _ _ _ hk,toList_mk,toList_mk]
     ·next hk=>
      cases ht;cases g<;>cases g'<;>simp only [lS,reduceCtorEq] at he
      obtain ⟨r',hr',rfl⟩:=aW.1 he;simp only [GR] at hu hu';subst hu;subst hu';exact fin _ _ (run_equalIn_bool' w d _ _ _ hk) hr'
     ·cases ht
    ·cases hp
   ·cases hp
theorem afD {op:BinOp} {t:TypeId} {x y:Operand} {fs:Array Field} {ks:List Nat} {g1 g2 g:GV} {u u':Value} (hu:P.underlying t=some (.struct fs)) (hst:P.stoodInHeld t=false) (heg:P.eqGuardType P.depth t=false) (hp:Ht P fs.toList 0=some ks)
 (h:FP op ks g1 g2=some g) (h1:GR η.ro g1 u) (h2:GR η.ro g2 u') :
 g.scalar=true/\∃z,(do eqGuard op t x y u u';binOp op t u u':Sem Value).run P w=.ok z w/\GR η.ro g z:=by
 unfold FP at h;split at h
 ·next a b=>
  simp only [GR] at h1 h2;obtain ⟨vs,rfl,h1⟩:=h1;obtain ⟨us,rfl,h2⟩:=h2;have hfo:P.fieldsOf t=fs:=by unfold Program.fieldsOf;rw [hu]
  have hun:P.underlying t=some (.struct (P.fieldsOf t)):=by rw [hfo];exact hu
  have key:∀r,lS ks a b=some r->(Op.equalIn 10000 t (.agg ⟨vs⟩) (.agg ⟨us⟩)).run P w=.ok r w:=by
   intro r hr;rw [run_equalIn_agg w 9999 t _ _ hun hst,hfo];exact aaz (η:=η) 9998 fs.toList 0 ks vs us a b r hp (by simpa using h1) (by simpa using h2) hr
  split at h
  ·obtain ⟨r,hr,rfl⟩:=aW.1 h
   refine ⟨rfl,.bool r, ?_,by simp only [GR]⟩;simp only [aQ,run_eqGuard_agg w .eql t x y _ _ heg,aP,run_eql_struct,key r hr]
  ·obtain ⟨r,hr,rfl⟩:=aW.1 h
   refine ⟨rfl,.bool (!r), ?_,by simp only [GR]⟩;simp only [aQ,run_eqGuard_agg w .neq t x y _ _ heg,aP,run_neq_struct,key r hr]
  ·cases h
 ·cases h
theorem aoX {op:BinOp} {t:TypeId} {x y:Operand} {a b v:AV} {u u':Value} (hs:QF P op t a b=some v) (hx:VR η a u) (hy:VR η b u') :
 ∃z,(do eqGuard op t x y u u';binOp op t u u':Sem Value).run P w=.ok z w/\VR η v z:=by
 unfold QF at hs
 have two:∀ {m n:Nat} {nd:Nd},jB nd=some v->(∀g,nd.den aF.I aF.val=some g->g.scalar=true/\∃z,(do eqGuard op t x y u u';binOp op t u u':Sem Value).run P w=.ok z w/\GR η.ro g z)->
  ∃z,(do eqGuard op t x y u u';binOp op t u u':Sem Value).run P w=.ok z w/\VR η v z:=by
  intro m n nd hm hd;obtain ⟨_,g,_,h2,h3⟩:=kH (η:=η) hm;obtain ⟨h4,z,h5,h6⟩:=hd g h2;exact ⟨z,h5,h3 z h4 h6⟩
 have Zg:(match gZ a,gZ b with | some x,some y=>jB (.bin op x y) | _,_=>none)=some v->∃z,(do eqGuard op t x y u u';binOp op t u u':Sem Value).run P w=.ok z w/\VR η v z:=by
  intro hs;split at hs
  ·next m n hm hn=>
   obtain ⟨g1,a1,a2,a3⟩:=ku hm hx;obtain ⟨g2,b1,b2,b3⟩:=ku hn hy;refine two (m:=m) (n:=n) hs λg hg=>?_;simp only [Nd.den,a1,b1] at hg;exact afE hg a3 b3
  ·cases hs
 split at hs
 ·exact Zg hs
 ·exact Zg hs
 ·next hu=>
  split at hs
  ·next m n hm hn=>
   obtain ⟨g1,a1,a2,a3⟩:=ku hm hx;obtain ⟨g2,b1,b2,b3⟩:=ku hn hy;refine two (m:=m) (n:=n) hs λg hg=>?_;simp only [Nd.den,a1,b1] at hg;exact afC hu hg a3 b3
  ·cases hs
 ·next fs hu=>
  split at hs
  ·next hc=>
   rw [aI,uz,uz] at hc;split at hs
   ·next ks m n hks hm hn=>
    obtain ⟨l1,g1,_,_,a1,a2,a3⟩:=FI hm hx;obtain ⟨l2,g2,_,_,b1,b2,b3⟩:=FI hn hy;refine two (m:=m) (n:=n) hs λg hg=>?_;simp only [Nd.den,a1,b1] at hg;exact afD hu hc.1 hc.2 hks hg a3 b3
   ·cases hs
  ·cases hs
 ·next e hu=>
  have rx:∀ {m off:Nat} {u:Value},VR η (.rx m off) u->∃ad,u=.pointer (some ad):=by
   intro m off u h;simp only [VR] at h;obtain ⟨g,bl,base,cs,elem,fr,y,_,_,_,rfl,_⟩:=h;exact ⟨_,rfl⟩
  have pv:∀ {id m off:Nat} {u:Value},VR η (.pv id m off) u->∃ad,u=.pointer (some ad):=by
   intro id m off u h;simp only [VR] at h;obtain ⟨q,k,i,_,_,rfl⟩:=h;exact ⟨_,rfl⟩
  have np:∀ {u:Value},VR η .jq u->u=.pointer none:=by intro u h;simpa only [VR] using h
  split at hs<;>cases hs
  ·obtain ⟨ad,rfl⟩:=rx hx;have:=np hy;subst this;exact ⟨_,oC (Bv hu _) rfl rfl,by simp only [VR]⟩
  ·obtain ⟨ad,rfl⟩:=rx hy;have:=np hx;subst this;exact ⟨_,oC (Bq hu _) rfl rfl,by simp only [VR]⟩
  ·obtain ⟨ad,rfl⟩:=rx hx;have:=np hy;subst this;exact ⟨_,oD (Bv hu _) rfl rfl,by simp only [VR];rfl⟩
  ·obtain ⟨ad,rfl⟩:=rx hy;have:=np hx;subst this;exact ⟨_,oD (Bq hu _) rfl rfl,by simp only [VR];rfl⟩
  ·obtain ⟨ad,rfl⟩:=pv hx;have:=np hy;subst this;exact ⟨_,oC (Bv hu _) rfl rfl,by simp only [VR]⟩
  ·obtain ⟨ad,rfl⟩:=pv hy;have:=np hx;subst this;exact ⟨_,oC (Bq hu _) rfl rfl,by simp only [VR]⟩
  ·obtain ⟨ad,rfl⟩:=pv hx;have:=np hy;subst this;exact ⟨_,oD (Bv hu _) rfl rfl,by simp only [VR];rfl⟩
  ·obtain ⟨ad,rfl⟩:=pv hy;have:=np hx;subst this;exact ⟨_,oD (Bq hu _) rfl rfl,by simp only [VR];rfl⟩
 ·cases hs
theorem apt {op:UnOp} {g g':GV} {u:Value} (h:Q7 op g=some g') (h1:GR η.ro g u):g'.scalar=true/\∃z,(Op.unary op u).run P w=.ok z w/\GR η.ro g' z:=by
 unfold Q7 at h;split at h
 ·simp only [GR] at h1;subst h1
  split at h
  ·cases h;exact ⟨rfl,_,rfl,by simp only [GR]⟩
  ·cases h
 ·simp only [GR] at h1;subst h1
  split at h
  ·cases h;exact ⟨rfl,_,rfl,by simp only [GR]⟩
  ·simp only [fG,aT] at h
   subst h;exact ⟨rfl,_,rfl,by simp only [GR]⟩
  ·cases h
 ·cases h
theorem ao9 {op:UnOp} {a v:AV} {u:Value} (hs:Ib op a=some v) (hx:VR η a u):∃z,(Op.unary op u).run P w=.ok z w/\VR η v z:=by
 unfold Ib at hs;split at hs
 ·next n=>
  obtain ⟨_,g,_,h2,h3⟩:=kH (η:=η) hs;simp only [VR] at hx;obtain ⟨g0,a1,a2,a3⟩:=hx;simp only [Nd.den,a1] at h2;obtain ⟨h4,z,h5,h6⟩:=apt (P:=P) (w:=w) h2 a3;exact ⟨z,h5,h3 z h4 h6⟩
 ·cases hs
end
end Go.aN
namespace Go.aN
set_option linter.unusedSimpArgs false
noncomputable section
variable [aF]
set_option linter.unusedSectionVars false
set_option linter.unusedVariables false
variable {P:Program} {η:Env} {σ σ':ak} {w:World}
theorem SR.swap (h:SR P η σ w) {id:Nat} {o o':aY} (hg:σ.get id=some o) (ho:o'.own=o.own) (hl:Live P η w id o'):SR P η (σ.put id o') w:=by
 have key:∀k u,(σ.put id o').get k=some u->∃u',σ.get k=some u'/\u.own=u'.own:=by
  intro k u hk;rw [ak.get_put] at hk;split at hk
  ·next e=>cases hk;subst e;exact ⟨o,hg,ho⟩
  ·exact ⟨u,hk,rfl⟩
 refine ⟨h.kR,h.dom,λk u hk=>?_,h.jf,λk u k' u' q q' h1 h2 h3 hne h5 h6=>?_,h.iI,λk u q h1 h2 h3=>?_,h.tabs⟩
 ·rw [ak.get_put] at hk
  split at hk
  ·next e=>cases hk;subst e;exact hl
  ·exact h.live k u hk
 ·obtain ⟨v,a1,a2⟩:=key k u h1
  obtain ⟨v',b1,b2⟩:=key k' u' h3;exact h.sep k v k' v' q q' a1 (a2 ▸ h2) b1 hne h5 h6
 ·obtain ⟨v,a1,a2⟩:=key k u h1
  exact h.jQ k v q a1 (a2 ▸ h2) h3
theorem St.left {η':Env} {τ:ak} {w':World} (h:St P η τ w η' σ' w') (hl:τ.lock=σ.lock) (hn:τ.next=σ.next) (hk:∀k u,τ.get k=some u->u.own=true->∃u',σ.get k=some u'/\u'.own=true):St P η σ w η' σ' w':=by
 refine ⟨h.ext,h.rel,h.size,λbl hb hno=>h.keep bl hb λk u q a1 a2 a3 a4=>?_,λk u q a1 a2 a3 a4=>?_,h.os,h.tape,h.output,h.lock.trans hl,hn ▸ h.next,hn ▸ h.new,λb hb=>?_⟩
 ·obtain ⟨v,b1,b2⟩:=hk k u a1 a2
  exact hno k v q b1 b2 (hl ▸ a3) a4
 ·rcases h.own k u q a1 a2 (hl ▸ a3) a4 with h1 | ⟨k0,u0,q0,b1,b2,b3,b4,b5⟩
  ·exact .inl h1
  ·obtain ⟨v,c1,c2⟩:=hk k0 u0 b1 b2
   exact .inr ⟨k0,v,q0,c1,c2,hl ▸ b3,b4,b5⟩
 ·rcases h.oh b hb with h1 | h1 | ⟨k0,u0,q0,b1,b2,b3,b4,b5⟩
  ·exact .inl h1
  ·exact .inr (.inl h1)
  ·obtain ⟨v,c1,c2⟩:=hk k0 u0 b1 b2
   exact .inr (.inr ⟨k0,v,q0,c1,c2,hl ▸ b3,b4,b5⟩)
theorem St.right {η':Env} {τ:ak} {w':World} (h:St P η σ w η' σ' w') (rel:SR P η' τ w') (hl:τ.lock=σ'.lock) (hn:τ.next=σ'.next) (hk:∀k u,τ.get k=some u->u.own=true->∃u',σ'.get k=some u'/\u'.own=true):St P η σ w η' τ w':=by
 refine ⟨h.ext,rel,h.size,h.keep,λk u q a1 a2 a3 a4=>?_,h.os,h.tape,h.output,hl.trans h.lock,by rw [hn];exact h.next,by rw [hn];exact h.new,h.oh⟩;obtain ⟨v,b1,b2⟩:=hk k u a1 a2;exact h.own k v q b1 b2 a3 a4
def bC (xs:List GV):List AV:=cu (xs.flatMap GV.cells)
theorem Jv {xs:List GV} {sz:Nat} (h:∀x∈xs,x.cells.length=sz):(xs.flatMap GV.cells).length=xs.length * sz:=by
 induction xs with
 | nil=>simp
 | cons x xs ih=>
   rw [ji,dH,h x (by simp),ih (λy hy=>h y (by simp [hy])),iY,pG];omega
theorem aiq {xs:List GV} {sz:Nat} (h:∀x∈xs,x.cells.length=sz) (i:Nat):(xs.flatMap GV.cells).drop (i * sz)=(xs.drop i).flatMap GV.cells:=by
 induction xs generalizing i with
 | nil=>simp
 | cons x xs ih=>
   cases i with
   | zero=>simp
   | succ i=>
     have hx:=h x (by simp);rw [ji,YA,gY (by rw [hx,pG];omega),hx,bV,Iw,<- ih (λy hy=>h y (by simp [hy]))];congr 1;rw [pG];omega
theorem aip {xs:List GV} {sz i:Nat} {x:GV} (h:∀x∈xs,x.cells.length=sz) (hi:xs[i]? = some x):((xs.flatMap GV.cells).drop (i * sz)).take sz=x.cells:=by
 rw [aiq h];have:xs.drop i=x::xs.drop (i+1):=by
  obtain ⟨hlt,rfl⟩:=dR.1 hi;exact jw hlt
 have hl:=h x (qw hi);rw [this,ji,MG (by omega),lK (by omega)]
theorem OO (l:List GV) (n:Nat):cu (l.take n)=(cu l).take n:=by rw [tJ,tJ,List.map_take]
theorem OM (l:List GV) (n:Nat):cu (l.drop n)=(cu l).drop n:=by rw [tJ,tJ,List.map_drop]
theorem DV (l m:List GV):cu (l++m)=cu l++cu m:=by rw [tJ,tJ,tJ,sD]
theorem ungroup:∀ (xs:List GV) (vs:List Value),ay η (bC xs) vs->(∀x∈xs,x.cells.all GV.scalar=true)->∃ys,aO η.ro xs ys/\cO ys=vs/\∀ (k:Nat) x y,xs[k]? = some x->ys[k]? = some y->y.cells.size=x.cells.length
 | [],vs,h,_=>by
   simp only [bC,List.flatMap_nil,cu,ay] at h;subst h;exact ⟨[],by simp [aO],rfl,by simp⟩
 | x::xs,vs,h,hsc=>by
   have h':ay η (cu x.cells++bC xs) vs:=by rw [bC,ji,DV] at h;exact h
   have h1:=h'.take x.cells.length;have h2:=h'.drop x.cells.length;rw [MG (by rw [jX];omega),lK (by rw [jX];omega)] at h1;rw [Rx (by rw [jX];omega),gY (by rw [jX];omega),bV] at h2;obtain ⟨ys,g1,g2,g3⟩:=ungroup xs _ h2 (λy hy=>hsc y (by simp [hy]));have hl:=h1.length;rw [jX] at hl;have fin:∀y,GR η.ro x y->y.cells.toList=vs.take x.cells.length->∃ys,aO η.ro (x::xs) ys/\cO ys=vs/\∀ (k:Nat) x' y,(x::xs)[k]? = some x'->ys[k]? = some y->y.cells.size=x'.cells.length:=by
    intro y hy hyc;refine ⟨y::ys,by simp only [aO];exact ⟨y,ys,rfl,hy,g1⟩, ?_, ?_⟩
    ·have:cO (y::ys)=y.cells.toList++cO ys:=by simp [cO]
     rw [this,hyc,g2,CV]
    ·intro k x' y' hk hk'
     cases k with
     | zero=>simp at hk hk';subst hk;subst hk';rw [hl,<- hyc];simp
     | succ k=>exact g3 k x' y' (by simpa using hk) (by simpa using hk')
   cases x with
   | g cs=>exact fin (.agg ⟨vs.take cs.length⟩) (by simp only [GR];exact ⟨_,rfl,(lV _ _).2 h1⟩) rfl
   | _=>
     simp only [GV.cells,cu,ay,iY,qQ] at h1 hl;obtain ⟨u,us,e1,e2,rfl⟩:=h1;refine fin u ((jU _ _).2 e2) ?_;rw [acV (GR.nK ((jU _ _).2 e2) rfl)];exact e1.symm
theorem aO.scalars {ro:Nat->Option Obj}:∀ {gs:List GV} {vs:List Value},aO ro gs vs->(∀v∈vs,nK v=true)->gs.all GV.scalar=true
 | [],_,_,_=>rfl
 | g::gs,vs,h,ho=>by
   simp only [aO] at h;obtain ⟨x,xs,rfl,h1,h2⟩:=h;simp only [qP,aI];refine ⟨?_,aO.scalars h2 λv hv=>ho v (by simp [hv])⟩;cases g with
   | g cs=>simp only [GR] at h1;obtain ⟨vs,rfl,_⟩:=h1;have:=ho (.agg ⟨vs⟩) (by simp);simp [nK] at this
   | _=>rfl
theorem OR.G8 {q:Place} {m et:Nat} {f:Bool} (h:OR P η q w (.vec m et f)):∃xs,aF.val m=some (.l xs)/\(∀x∈xs,x.cells.length=q.es)/\et≠0/\0 < q.es/\sizeT P et=some q.es/\xs.length * q.es<=q.sz/\(∀x∈xs,x.cells.all GV.scalar=true)/\OR P η q w (.cells (bC xs) et true true):=by
 obtain ⟨xs,cs,elem,fr,ys,h1,h2,h3,h4,h5,h6,r,h8,_⟩:=h;obtain ⟨a1,a2,a3⟩:=r.room rfl;have hsz:∀x∈xs,x.cells.length=q.es:=by
  intro x hx;obtain ⟨k,hk⟩:=Iy hx;obtain ⟨y,hy,hv⟩:=h3.at hk;rw [hv.ZF];exact h4 y (qw hy)
 have hvs:ay η (bC xs) (cO ys):=by rw [bC,<- Us];exact aaS ((lV _ _).1 h3)
 refine ⟨xs,h1,hsz,a1,a2,a3,h6,h8,cs,elem,fr,h2, { fits:=r.fits,le:=by rw [bC,jX,Jv hsz];exact h6,shut:=by simp,cell:=λk a hk=>?_,free:=r.free,whole:=r.whole,room:=r.room }⟩;obtain ⟨v,hv,hr⟩:=hvs.at hk;exact ⟨v,h5 k v hv,hr⟩
theorem OR.Q9 {q:Place} {m et:Nat} (h:OR P η q w (.vec m et true)):q.es<=q.sz:=by
 obtain ⟨xs,cs,elem,fr,ys,h1,h2,h3,h4,h5,h6,r,h8,h9⟩:=h;exact h9 rfl
theorem OR.uZ {q:Place} {m et:Nat} {f:Bool} {xs:List GV} (hf:f=true->q.es<=q.sz) (hv:aF.val m=some (.l xs)) (hsz:∀x∈xs,x.cells.length=q.es) (hsc:∀x∈xs,x.cells.all GV.scalar=true) {c:List AV} (h:OR P η q w (.cells c et true true)) (hc:∀vs,ay η c vs->ay η (bC xs) vs):OR P η q w (.vec m et f):=by
 obtain ⟨cs,elem,fr,h1,r⟩:=h;have hfit:=r.fits;have hle:=r.le;have hcv:ay η c ((cs.toList.drop q.ba).take c.length):=by
  refine ay.of (by simp;omega) λk a hk=>?_;obtain ⟨x,hx,hv⟩:=r.cell k a hk;have hlt:=(dR.1 hk).1;exact ⟨x,by rw [kF,aj hlt,pz];simpa using hx,hv⟩
 have hg:=hc _ hcv;obtain ⟨ys,g1,g2,g3⟩:=ungroup xs _ hg hsc;have hlen:xs.length * q.es=c.length:=by
  have:=hg.length;rw [bC,jX,Jv hsz] at this;rw [this];simp;omega
 refine ⟨xs,cs,elem,fr,ys,hv,h1,g1,λy hy=>?_,λk x hk=>?_,by omega, { fits:=r.fits,le:=by simp,shut:=by simp,cell:=by simp,free:=r.free,whole:=r.whole,room:=r.room },hsc,hf⟩
 ·obtain ⟨k,hk⟩:=Iy hy
  have hkl:k < xs.length:=by rw [g1.length];exact (dR.1 hk).1
  rw [g3 k _ y (bP hkl) hk];exact hsz _ (je hkl)
 ·rw [g2,kF] at hk
  split at hk
  ·rw [pz] at hk;simpa using hk
  ·cases hk
def jC (σ:ak) (id:Nat) (xs:List GV) (et:TypeId):ak:=σ.put id (.cells (bC xs) et true true)
theorem Ie (h:SR P η σ w) {id m et:Nat} {f:Bool} {q:Place} (hg:σ.get id=some (.vec m et f)) (hq:η id=some q):∃xs,aF.val m=some (.l xs)/\(∀x∈xs,x.cells.length=q.es)/\et≠0/\0 < q.es/\sizeT P et=some q.es/\xs.length * q.es<=q.sz/\(∀x∈xs,x.cells.all GV.scalar=true)/\SR P η (jC σ id xs et) w:=by
 obtain ⟨xs,h1,h2,h3,h4,h5,h6,h7,h8⟩:=(h.at hg hq).G8;exact ⟨xs,h1,h2,h3,h4,h5,h6,h7,h.swap hg rfl (.inl ⟨q,hq,h8⟩)⟩
theorem Ar {id:Nat} {xs:List GV} {et:TypeId}:(jC σ id xs et).get id=some (.cells (bC xs) et true true):=by unfold jC;rw [ak.get_put,aj rfl]
theorem LD {η':Env} {w':World} {id m et:Nat} {f:Bool} {xs:List GV} (hg:σ.get id=some (.vec m et f)) (h:St P η (jC σ id xs et) w η' σ' w'):St P η σ w η' σ' w':=by
 refine h.left rfl rfl λk u hk ho=>?_;unfold jC at hk;rw [ak.get_put] at hk;split at hk
 ·next e=>subst e;exact ⟨_,hg,rfl⟩
 ·exact ⟨u,hk,ho⟩
theorem apz {η':Env} {w':World} {id m et:Nat} {f:Bool} {q:Place} {xs:List GV} (hf:f=true->q.es<=q.sz) (hg:σ.get id=some (.vec m et f)) (hq:η id=some q) (hv:aF.val m=some (.l xs)) (hsz:∀x∈xs,x.cells.length=q.es) (hsc:∀x∈xs,x.cells.all GV.scalar=true) (h:St P η σ w η' (jC σ id xs et) w'):St P η σ w η' σ w':=by
 have hq':=h.ext.pl _ _ hq;have hor:=OR.uZ hf hv hsz hsc (h.rel.at Ar hq') (λ_ h=>h);refine h.right ((h.rel.swap (o':=.vec m et f) Ar rfl (.inl ⟨q,hq',hor⟩)).sub (λk o hk=>?_) (dD _)) rfl rfl (λk o hk ho=>?_)
 ·unfold jC
  rw [ak.get_put,ak.get_put];split
  ·next e=>rw [e,hg] at hk;exact hk
  ·exact hk
 ·unfold jC
  rw [ak.get_put];split
  ·exact ⟨_,rfl,rfl⟩
  ·exact ⟨o,hk,ho⟩
theorem NJ {m:Nat} {g:GV} (hv:aF.val m=some g):∀ (n off:Nat) {l:List AV},Dx m off n=some l->∃r,takeN (cu g.cells) off n=some r/\∀vs,ay η r vs->ay η l vs
 | 0,off,l,h=>by
   simp only [Dx,aT] at h;subst h;exact ⟨[],by simp [takeN],λ_ h=>h⟩
 | n+1,off,l,h=>by
   simp only [Dx] at h;split at h
   ·next a r ha hr=>
    cases h;obtain ⟨_,g',_,h2,h3⟩:=kH (η:=η) ha;simp only [Nd.den,hv] at h2;split at h2
    ·next c hc=>
     split at h2
     ·next hs=>
      cases h2;obtain ⟨r',h4,h5⟩:=NJ hv n (off+1) hr;obtain ⟨e1,e2,e3⟩:=oO h4;refine ⟨jM g'::r', ?_, ?_⟩
      ·have hlt:off < g.cells.length:=(dR.1 hc).1
       have hd:(cu g.cells).drop off=jM g'::(cu g.cells).drop (off+1):=by
        have hget:(cu g.cells)[off]? = some (jM g'):=by rw [JB,hc];rfl
        obtain ⟨hl',he⟩:=dR.1 hget;rw [jw hl',he]
       unfold takeN;simp only [hd,wK,<- e1,iY,e2,if_true]
      ·intro vs hvs
       simp only [ay] at hvs ⊢;obtain ⟨x,xs,rfl,k1,k2⟩:=hvs;exact ⟨x,xs,rfl,h3 x hs ((jU _ _).2 k1),h5 xs k2⟩
     ·cases h2
    ·cases h2
   ·cases h
theorem XO {t:TypeId} {m off:Nat} {g:GV} {v:AV} (hv:aF.val m=some g) (h:Lm P t m off=some v):∃r,(match mD P t with
 | some true=>match sizeT P t with
   | some n=>(takeN (cu g.cells) off n).map .agg
   | none=>none
 | some false=>(cu g.cells)[off]?
 | none=>none)=some r/\∀y,VR η r y->VR η v y:=by
 unfold Lm at h;split at h
 ·next ha=>
  split at h
  ·next n hn=>
   obtain ⟨l,hl,rfl⟩:=aW.1 h;obtain ⟨r,h1,h2⟩:=NJ (η:=η) hv n off hl;rw [ha,hn];refine ⟨.agg r,by simp [h1],λy hy=>?_⟩;simp only [VR] at hy ⊢;obtain ⟨vs,rfl,h3⟩:=hy;exact ⟨vs,rfl,h2 vs h3⟩
  ·cases h
 ·next ha=>
  obtain ⟨_,g',_,h2,h3⟩:=kH (η:=η) h;simp only [Nd.den,hv] at h2;split at h2
  ·next c hc=>
   split at h2
   ·next hs=>
    cases h2;rw [ha];exact ⟨jM g',by simp only;rw [JB,hc];rfl,λy hy=>h3 y hs ((jU _ _).2 hy)⟩
   ·cases h2
  ·cases h2
 ·cases h
theorem ao4 (h:SR P η σ w) {t:TypeId} {a v:AV} {x:Value} (hs:QK P t σ a=some v) (hx:VR η a x):∃y,(Instr.loadAt t x).run P w=.ok y w/\VR η v y:=by
 unfold QK at hs;split at hs
 ·next m off=>
  simp only [VR] at hx;obtain ⟨g,bl,base,cs,elem,fr,u,h1,h2,h3,rfl,h4⟩:=hx;obtain ⟨r,hr,hv⟩:=XO (η:=η) h1 hs;have hx':VR η (.rp (jM g) off) (.pointer (some ⟨bl,base+off,none⟩)):=by simp only [VR];exact ⟨bl,base,cs,elem,fr,u,h2,(jU _ _).1 h3,rfl,h4⟩
  have hl:sK P t σ (.rp (jM g) off)=some r:=by simp only [sK,Gs];exact hr
  obtain ⟨y,h5,h6⟩:=BO h hl hx';exact ⟨y,h5,hv y h6⟩
 ·next id i off=>
  split at hs
  ·next m et _ hg=>
   split at hs
   ·next size hsz=>
    split at hs
    ·next e he=>
     simp only [VR] at hx;obtain ⟨q,k,j,hq,hj,rfl⟩:=hx;obtain ⟨xs,h1,h2,h3,h4,h5,_,_,hS⟩:=Ie h hg hq;rw [hsz] at h5;cases h5;obtain ⟨g,g1,g2⟩:=fF he;simp only [Nd.den,h1,hj] at g2;split at g2
     ·next hj0=>
      split at g2
      ·next x hxi=>
       split at g2
       ·next hxl=>
        cases g2;obtain ⟨r,hr,hv⟩:=XO (η:=η) g1 hs;have hat:=aip h2 hxi;have hcell:∀n r',takeN (cu g.cells) off n=some r'->takeN (bC xs) (j.toNat * q.es+off) n=some r':=by
         intro n r' hr';obtain ⟨e1,e2,e3⟩:=oO hr';rw [jX] at e3;have:((bC xs).drop (j.toNat * q.es+off)).take n=r':=by
          rw [<- nS,bC,<- OM,e1,<- hat,OO,Fa,YL];congr 1;rw [hxl] at e3;omega
         unfold takeN;simp only [this,e2,if_true]
        have hget:∀r',(cu g.cells)[off]? = some r'->(bC xs)[j.toNat * q.es+off]? = some r':=by
         intro r' hr';have hlt:off < q.es:=by have:=(dR.1 hr').1;rw [jX,hxl] at this;exact this
         rw [<- hat,OO,kF,aj hlt,OM,pz] at hr';exact hr'
        have hl:sK P t (jC σ id xs et) (.p id (j.toNat * q.es+off))=some r:=by
         simp only [sK,Ar];split at hr
         ·next ha=>
          rw [ha];split at hr
          ·next n hn=>
           rw [hn];obtain ⟨r',hr',rfl⟩:=aW.1 hr;simp only [hcell n r' hr',gG]
          ·cases hr
         ·next ha=>rw [ha];exact hget r hr
         ·cases hr
        obtain ⟨y,h5,h6⟩:=BO hS hl (x:=.pointer (some ⟨q.bl,q.ba+j.toNat * q.es+off,none⟩)) (by simp only [VR];exact ⟨q,hq,by rw [iR]⟩);exact ⟨y,h5,hv y h6⟩
       ·cases g2
      ·cases g2
     ·cases g2
    ·cases hs
   ·cases hs
  ·cases hs
 ·cases hs
theorem ao0 {t:TypeId} {a v:AV} {x:Value} {f:Nat} (h:QH P t a f=some v) (hx:VR η a x):∃y,(Instr.fieldAt t x f).run P w=.ok y w/\VR η v y:=by
 unfold QH at h;split at h
 ·next fields hu=>
  split at h
  ·next fd hf=>
   split at h
   ·next n hn=>
    split at h
    ·cases h
    ·next h0=>
     split at h
     ·next m off=>
      cases h;simp only [VR] at hx;obtain ⟨g,bl,base,cs,elem,fr,u,h1,h2,h3,rfl,h4⟩:=hx;refine ⟨.pointer (some ⟨bl,base+off+fd.offset,none⟩), ?_, ?_⟩
      ·simp [Instr.fieldAt,aV hu,hf,Instr.sureAddr,fieldPlace,iE hn,h0,nT]
      ·simp only [VR];exact ⟨g,bl,base,cs,elem,fr,u,h1,h2,h3,by rw [iR],h4⟩
     ·next id m off=>
      cases h;simp only [VR] at hx;obtain ⟨q,k,i,hq,hi,rfl⟩:=hx;refine ⟨.pointer (some ⟨q.bl,q.ba+i.toNat * q.es+off+fd.offset,none⟩), ?_, ?_⟩
      ·simp [Instr.fieldAt,aV hu,hf,Instr.sureAddr,fieldPlace,iE hn,h0,nT]
      ·simp only [VR];exact ⟨q,k,i,hq,hi,by rw [iR]⟩
     ·cases h
   ·cases h
  ·cases h
 ·cases h
theorem JZ {i:Nat} {g:GV} {y:Value} (hg:aF.val i=some g) (hy:GR η.ro g y):∀ {c j:Nat} {k:AV},Eb i c j=some k->∃ (kk:IntKind) (m:Int),k=.i .i64 m/\y=.int kk m
 | 0,j,k,h=>by cases h
 | c+1,j,k,h=>by
   unfold Eb at h;have key:∀ {r v},jB (.xu i j)=some r->(∀x,VR η r x->VR η (.b v) x)->∃ (kk:IntKind) (m:Int),g=.i kk m/\decide (m=(j:Int))=v:=by
    intro r v hb hv;obtain ⟨_,r',q1,q2,q3⟩:=kH (η:=η) hb;simp only [Nd.den,hg] at q2;cases g with
    | i kk m=>
      simp only [aT] at q2;subst q2;have:=hv _ (q3 (.bool (decide (m=(j:Int)))) rfl (by simp only [GR]));simp only [VR] at this;cases this;exact ⟨kk,m,rfl,rfl⟩
    | _=>cases q2
   have fin:∀ {r},jB (.xu i j)=some r->(∀x,VR η r x->VR η (.b true) x)->some (AV.i .i64 (j:Int))=some k->∃ (kk:IntKind) (m:Int),k=.i .i64 m/\y=.int kk m:=by
    intro r hb hv he;obtain ⟨kk,m,rfl,hm⟩:=key hb hv;cases he;have hm:m=(j:Int):=by simpa using hm
    subst hm;simp only [GR] at hy;exact ⟨kk,_,rfl,hy⟩
   split at h
   ·next hb=>exact fin hb (λ_ h=>h) h
   ·next hb=>exact JZ hg hy h
   ·next m hb=>
    split at h
    ·next hd=>
     obtain ⟨v,hv,q4⟩:=DJ hd;cases hv;exact fin hb (λx hx=>q4 η x hx) h
    ·next hd=>exact JZ hg hy h
    ·cases h
   ·cases h
theorem ao1 (h:SR P η σ w) {t:TypeId} {a i v:AV} {x y:Value} (hs:QJ P σ t a i=some v) (hx:VR η a x) (hy:VR η i y):∃z,(Instr.indexAt t x y).run P w=.ok z w/\VR η v z:=by
 unfold QJ at hs;split at hs
 ·next e hu=>
  split at hs
  ·next size ni hsz hni=>
   obtain ⟨gi,i1,i2,i3⟩:=ku hni hy;split at hs
   ·next n=>
    obtain ⟨m,hm,rfl⟩:=aW.1 hs;obtain ⟨g,g1,g2⟩:=fF hm;simp only [VR] at hx;obtain ⟨gl,l1,l2,l3⟩:=hx;simp only [Nd.den,l1,i1] at g2;split at g2
    ·next xs k j e1 e2=>
     cases e1;cases e2;simp only [GR] at i3;subst i3;split at g2
     ·next hj=>
      split at g2
      ·next z hz=>
       split at g2
       ·next hzl=>
        cases g2;have hl:vM P t (.ro (cu xs)) (.i k j)=some (.rp (jM g) 0):=by
         have:(cu xs)[j.toNat]? = some (jM g):=by rw [JB,hz];rfl
         simp only [vM,hu,sJ,hsz,aj hj,this,Gs,jX,hzl,if_true]
        obtain ⟨z',h5,h6⟩:=JO (P:=P) (w:=w) hl ((jU (.l xs) x).1 l3) (by simp only [VR]:VR η (.i k j) (.int k j));refine ⟨z',h5, ?_⟩;simp only [VR] at h6 ⊢;obtain ⟨bl,base,cs,elem,fr,u,k1,k2,k3,k4⟩:=h6;exact ⟨g,bl,base,cs,elem,fr,u,g1,k1,(jU _ _).2 k2,k3,k4⟩
       ·cases g2
      ·cases g2
     ·cases g2
    ·cases g2
   ·next id n=>
    split at hs
    ·next m et _ hg=>
     split at hs
     ·next het=>
      have DY:=bn het;subst DY;obtain ⟨m',hm,rfl⟩:=aW.1 hs;obtain ⟨g,g1,g2⟩:=fF hm;simp only [VR] at hx;obtain ⟨xs,l1,hx⟩:=hx;simp only [Nd.den,l1,i1] at g2;split at g2
      ·next xs' k j e1 e2=>
       cases e1;cases e2;simp only [GR] at i3;subst i3;split at g2
       ·next hj=>
        cases g2;rcases hx with ⟨q,hq,hle,rfl⟩ | ⟨_,rfl,_⟩
        ·obtain ⟨_,_,_,_,_,h5,_⟩:=(h.at hg hq).G8
         rw [hsz] at h5;cases h5;have hl:vM P t (.sl id 0 xs.length none) (.i k j)=some (.p id (0+j.toNat * q.es)):=by
          simp only [vM,hu,sJ,hsz,aj hj]
         obtain ⟨z',h6,h7⟩:=JO (P:=P) (w:=w) (x:=.slice (some ⟨q.bl,q.ba,none⟩) xs.length (q.sz / q.es)) hl (by simp only [VR];exact ⟨q,hq,by simpa using hle,by simp⟩) (by simp only [VR]:VR η (.i k j) (.int k j));refine ⟨z',h6, ?_⟩;simp only [VR] at h7 ⊢;obtain ⟨q',hq',rfl⟩:=h7;rw [hq] at hq';cases hq';exact ⟨q,.i64,j,hq,g1,by simp⟩
        ·simp at hj;omega
       ·cases g2
      ·cases g2
     ·cases hs
    ·cases hs
   ·next id off len cap=>
    split at hs
    ·next k hk=>
     obtain ⟨kk,m,rfl,rfl⟩:=JZ i1 i3 hk;have hs':vM P t (.sl id off len cap) (.i kk m)=some v:=hs;exact JO hs' hx (by simp only [VR])
    ·cases hs
   ·cases hs
  ·cases hs
 ·next len e hu=>
  split at hs
  ·next ni hi=>
   obtain ⟨g,i1,_,i3⟩:=ku hi hy;split at hs
   ·next k hk=>
    obtain ⟨kk,m,rfl,rfl⟩:=JZ i1 i3 hk;have hs':vM P t a (.i kk m)=some v:=hs;exact JO hs' hx (by simp only [VR])
   ·cases hs
  ·cases hs
 ·cases hs
theorem ao3 {t:TypeId} {ts:Array TypeId} {ty:TypeId} {a v:AV} {x:Value} (ht:ts[0]? = some t) (hs:XM P t a=some v) (hx:VR η a x) :
 ∃y,(Builtin.len_ ts ty #[x]).run P w=.ok y w/\VR η v y:=by
 have anL:∀s:List UInt8,P.underlying t=some .string->(Builtin.len_ ts ty #[.string ⟨⟨s⟩⟩]).run P w=.ok (.int .i64 s.length) w:=λs hu=>by simp [Builtin.len_,ht,aV hu,goInt,strSize]
 have Qr:∀ (e:TypeId) b (n c:Nat),P.underlying t=some (.slice e)->(Builtin.len_ ts ty #[.slice b n c]).run P w=.ok (.int .i64 n) w:=λe b n c hu=>by simp [Builtin.len_,ht,aV hu,goInt]
 unfold XM at hs;split at hs
 ·next n hu=>
  obtain ⟨_,g,_,h2,h3⟩:=kH (η:=η) hs;simp only [VR] at hx;obtain ⟨g0,a1,a2,a3⟩:=hx;simp only [Nd.den,a1] at h2;split at h2
  ·next s e1=>
   cases e1;cases h2;simp only [GR] at a3;subst a3;exact ⟨_,anL s hu,h3 _ rfl (by simp only [GR])⟩
  ·cases h2
 ·next e n hu=>
  obtain ⟨_,g,_,h2,h3⟩:=kH (η:=η) hs;simp only [VR] at hx;obtain ⟨g0,a1,a2,a3⟩:=hx;simp only [Nd.den,a1] at h2;split at h2
  ·next xs e1=>
   cases e1;cases h2;simp only [GR] at a3;rcases a3 with ⟨rfl,_,rfl⟩ | ⟨bl,off,c,ys,sz,rfl,_⟩
   ·exact ⟨_,Qr e _ _ _ hu,h3 _ rfl (by simp only [GR];rfl)⟩
   ·exact ⟨_,Qr e _ _ _ hu,h3 _ rfl (by simp only [GR])⟩
  ·cases h2
 ·next e id n hu=>
  obtain ⟨_,g,_,h2,h3⟩:=kH (η:=η) hs;simp only [VR] at hx;obtain ⟨xs,l1,hx⟩:=hx;simp only [Nd.den,l1,aT] at h2;subst h2;rcases hx with ⟨q,hq,hle,rfl⟩ | ⟨_,rfl,rfl⟩
  ·exact ⟨_,Qr e _ _ _ hu,h3 _ rfl (by simp only [GR])⟩
  ·exact ⟨_,Qr e _ _ _ hu,h3 _ rfl (by simp only [GR];rfl)⟩
 ·cases hs
theorem ao2 {t:TypeId} {a i v:AV} {x y:Value} (hs:QI P t a i=some v) (hx:VR η a x) (hy:VR η i y):∃z,(Instr.index t x y).run P w=.ok z w/\VR η v z:=by
 unfold QI at hs;split at hs
 ·next hu=>
  split at hs
  ·next n ni hn hni=>
   obtain ⟨gi,i1,i2,i3⟩:=ku hni hy;obtain ⟨gs,l1,l2,l3⟩:=ku hn hx;obtain ⟨_,g,_,h2,h3⟩:=kH (η:=η) hs;simp only [Nd.den,l1,i1] at h2;split at h2
   ·next s k j e1 e2=>
    cases e1;cases e2;simp only [GR] at i3;subst i3;simp only [GR] at l3;subst l3;split at h2
    ·next hj=>
     split at h2
     ·next c hc=>
      cases h2;have hl:AX P t (.s s) (.i k j)=some (.i .u8 c.toNat):=by simp only [AX,hu,sJ,aj hj,hc]
      obtain ⟨z,h5,h6⟩:=U0 (P:=P) (w:=w) (η:=η) hl (by simp only [VR]:VR η (.s s) (.string ⟨⟨s⟩⟩)) (by simp only [VR]:VR η (.i k j) (.int k j));exact ⟨z,h5,h3 z rfl ((jU _ _).2 h6)⟩
     ·cases h2
    ·cases h2
   ·cases h2
  ·cases hs
 ·next len e hu=>
  split at hs
  ·next ni hi=>
   obtain ⟨g,i1,_,i3⟩:=ku hi hy;split at hs
   ·next k hk=>
    obtain ⟨kk,m,rfl,rfl⟩:=JZ i1 i3 hk;have hs':AX P t a (.i kk m)=some v:=hs;exact U0 hs' hx (by simp only [VR])
   ·cases hs
  ·cases hs
 ·cases hs
theorem Zl {η:Env} {lo:Option AV} {lo':Option Value} {l:Nat} {d:Nd} {gl:GV} (hb:(match lo with | none=>dW d | some a=>gZ a)=some l) (ho:jJ η lo lo') (hv:aF.val l=some gl) :
 (lo=none/\lo'=none/\d.den aF.I aF.val=some gl)\/(∃v,lo'=some v/\GR η.ro gl v):=by
 cases lo with
 | none=>
   obtain ⟨g,h1,h2⟩:=fF hb;rw [hv] at h1;cases h1;refine .inl ⟨rfl, ?_,h2⟩;cases lo' with
   | none=>rfl
   | some v=>simp [jJ] at ho
 | some a=>
   cases lo' with
   | none=>simp [jJ] at ho
   | some v=>
     have hv':VR η a v:=by simpa [jJ] using ho
     obtain ⟨g,h1,_,h3⟩:=ku hb hv';rw [hv] at h1;cases h1;exact .inr ⟨v,rfl,h3⟩
theorem XP {lo hi:Option AV} {lo' hi':Option Value} {l h:Nat} {d:Nd} {k k':IntKind} {li hn:Int} {len:Nat} (hlo:Ja lo=some l) (hhi:NG d hi=some h) (h1:jJ η lo lo') (h2:jJ η hi hi')
 (hl:aF.val l=some (.i k li)) (hh:aF.val h=some (.i k' hn)) (hd:d.den aF.I aF.val=some (.i k' hn)->hn=len) (h0:0<=li) (hlh:li<=hn) (hle:hn<=len) :
 ∃lo2 hi2:Option AV,jJ η lo2 lo'/\jJ η hi2 hi'/\uK len (λh=>Nat.ble h len) lo2 hi2=some (li.toNat,hn.toNat):=by
 have hb1:=Zl (d:=.ci .i64 0) (by cases lo<;>exact hlo) h1 hl;have hb2:=Zl (d:=d) (by cases hi<;>exact hhi) h2 hh;have hroom:Nat.ble hn.toNat len=true:=YM (by omega);have hH:∃hi2:Option AV,jJ η hi2 hi'/\xW len (λh=>Nat.ble h len) hi2=some hn.toNat:=by
  rcases hb2 with ⟨_,e2,e3⟩ | ⟨v,rfl,e3⟩
  ·refine ⟨none,by rw [e2];simp [jJ], ?_⟩
   simp only [xW];rw [hd e3];simp
  ·simp only [GR] at e3;subst e3
   exact ⟨some (.i k' hn),by simp [jJ,VR],by simp only [xW,sJ];rw [aj ⟨by omega,hroom⟩]⟩
 have hL:∃lo2:Option AV,jJ η lo2 lo'/\FB hn.toNat lo2=some li.toNat:=by
  rcases hb1 with ⟨_,e2,e3⟩ | ⟨v,rfl,e3⟩
  ·refine ⟨none,by rw [e2];simp [jJ], ?_⟩
   simp only [Nd.den,aT,GV.i.injEq] at e3;simp only [FB];rw [<- e3.2];rfl
  ·simp only [GR] at e3;subst e3
   exact ⟨some (.i k li),by simp [jJ,VR],by simp only [FB,sJ];rw [aj ⟨h0,by omega⟩]⟩
 obtain ⟨hi2,a1,a2⟩:=hH;obtain ⟨lo2,b1,b2⟩:=hL;exact ⟨lo2,hi2,b1,a1,by simp only [uK,a2,b2]⟩
theorem aef (h:SR P η σ w) {t:TypeId} {a v:AV} {x:Value} {lo hi:Option AV} {lo' hi':Option Value} (hs:Lp P t a lo hi=some v) (hx:VR η a x) (hlo:jJ η lo lo') (hhi:jJ η hi hi') :
 ∃y,(Instr.sliceAt t x lo' hi' none).run P w=.ok y w/\VR η v y:=by
 unfold Lp at hs;split at hs
 ·next hu=>
  split at hs
  ·next n hn=>
   split at hs
   ·next l hh h1 h2=>
    obtain ⟨gs,s1,s2,s3⟩:=ku hn hx;obtain ⟨_,g,_,h4,h5⟩:=kH (η:=η) hs;simp only [Nd.den,s1] at h4;split at h4
    ·next s k li k' hi2 e1 e2 e3=>
     cases e1;split at h4
     ·next hc=>
      cases h4;simp only [GR] at s3;subst s3;obtain ⟨lo2,hi3,b1,b2,b3⟩:=XP (len:=s.length) h1 h2 hlo hhi e2 e3 (λhd=>by simp only [Nd.den,s1,aT,GV.i.injEq] at hd;exact hd.2.symm) hc.1 hc.2.1 hc.2.2;have hl:xY P t σ (.s s) lo2 hi3=some (.s ((s.take hi2.toNat).drop li.toNat)):=by simp only [xY,hu,b3,gG]
      obtain ⟨z,h6,h7⟩:=Qx h hl (by simp only [VR]:VR η (.s s) (.string ⟨⟨s⟩⟩)) b1 b2;exact ⟨z,h6,h5 z rfl ((jU _ _).2 h7)⟩
     ·cases h4
    ·cases h4
   ·cases hs
  ·cases hs
 ·next e hu=>
  split at hs
  ·next n size hsz=>
   split at hs
   ·next l hh h1 h2=>
    simp only [VR] at hx;obtain ⟨gs,s1,s2,s3⟩:=hx;obtain ⟨_,g,_,h4,h5⟩:=kH (η:=η) hs;simp only [Nd.den,s1] at h4;split at h4
    ·next xs k li k' hi2 e1 e2 e3=>
     cases e1;split at h4
     ·next hc=>
      cases h4;obtain ⟨c1,c2,c3,c4⟩:=hc;obtain ⟨lo2,hi3,b1,b2,b3⟩:=XP (len:=xs.length) h1 h2 hlo hhi e2 e3 (λhd=>by simp only [Nd.den,s1,aT,GV.i.injEq] at hd;exact hd.2.symm) c1 c2 c3;have hl:xY P t σ (.ro (cu xs)) lo2 hi3=some (.ro (cu ((xs.take hi2.toNat).drop li.toNat))):=by
       simp only [xY,hu,hsz,jX,b3,zk];unfold Nl;split
       ·next e=>
        have:(xs.take hi2.toNat).drop li.toNat=[]:=gY (by simp;omega);rw [this];rfl
       ·next e=>
        have hpos:0 < xs.length:=by omega
        have h0:(cu xs)[0]? = some (jM xs[0]):=by rw [JB,bP hpos];rfl
        rw [h0];simp only;have hc0:(jM xs[0]).cells.length=size:=by
         rw [Gs,jX];rw [List.all_eq_true] at c4;exact bn (c4 _ (je hpos))
        rw [aj hc0,OM,OO]
      obtain ⟨z,h6,h7⟩:=Qx h hl ((jU (.l xs) x).1 s3) b1 b2;exact ⟨z,h6,h5 z rfl ((jU _ _).2 (by simpa only [jM] using h7))⟩
     ·cases h4
    ·cases h4
   ·cases hs
  ·cases hs
 ·cases hs
end
end Go.aN
namespace Go.aN
set_option linter.unusedSimpArgs false
noncomputable section
variable [aF]
set_option linter.unusedSectionVars false
set_option linter.unusedVariables false
variable {P:Program} {η:Env} {σ σ':ak} {w:World}
theorem amq {cs vs r:List GV} {off:Nat} (h:putCells cs off vs=some r):off+vs.length<=cs.length/\r=cs.take off++vs++cs.drop (off+vs.length):=by
 unfold putCells at h;split at h
 ·next hl=>cases h;exact ⟨hl,rfl⟩
 ·cases h
theorem GV.amx {x y:GV} {off:Nat} {vs:List GV} (h:x.put off vs=some y) (hs:vs.all GV.scalar=true) (hx:x.cells.all GV.scalar=true):off+vs.length<=x.cells.length/\y.cells=x.cells.take off++vs++x.cells.drop (off+vs.length)/\y.cells.length=x.cells.length/\y.cells.all GV.scalar=true:=by
 have fin:∀r:List GV,off+vs.length<=x.cells.length->r=x.cells.take off++vs++x.cells.drop (off+vs.length)->r.length=x.cells.length/\r.all GV.scalar=true:=by
  intro r h1 h2;subst h2;refine ⟨by simp;omega, ?_⟩;rw [Yx,Yx,hs];rw [List.all_eq_true] at hx;simp only [LZ,aI,List.all_eq_true];exact ⟨λa ha=>hx a (Fg ha),λa ha=>hx a (AL ha)⟩
 have one:∀v,off=0->vs=[v]->x.cells.length=1->y=v->off+vs.length<=x.cells.length/\y.cells=x.cells.take off++vs++x.cells.drop (off+vs.length)/\y.cells.length=x.cells.length/\y.cells.all GV.scalar=true:=by
  intro v e1 e2 e3 e4;subst e1;subst e2;subst e4;simp only [qP,Yy,LZ] at hs;have hy:y.cells=[y]:=GV.EI hs;refine ⟨by simp [e3], ?_,by rw [hy,e3];rfl,by rw [hy];simp [hs]⟩;rw [hy,gY (by rw [e3];simp)];simp
 unfold GV.put at h;split at h
 ·next cs=>
  obtain ⟨r,hr,rfl⟩:=aW.1 h;obtain ⟨h1,h2⟩:=amq hr;obtain ⟨h3,h4⟩:=fin r h1 h2;exact ⟨h1,h2,h3,h4⟩
 ·next hng=>
  have hc:x.cells.length=1:=by
   cases x with
   | g cs=>exact absurd rfl (hng cs)
   | _=>rfl
  split at h
  ·next v=>cases h;exact one y rfl rfl hc rfl
  ·cases h
theorem aaT {y:GV} {vs:List GV} {off sz:Nat}:∀ {xs:List GV} {i:Nat} {x:GV},(∀z∈xs,z.cells.length=sz)->xs[i]? = some x->off+vs.length<=sz->y.cells=x.cells.take off++vs++x.cells.drop (off+vs.length)->
 (xs.set i y).flatMap GV.cells=(xs.flatMap GV.cells).take (i * sz+off)++vs++(xs.flatMap GV.cells).drop (i * sz+off+vs.length)
 | [],i,x,_,hi,_,_=>by simp at hi
 | z::xs,0,x,hs,hi,hle,hy=>by
   simp only [iL,aT] at hi;subst hi;have hz:=hs z (by simp);rw [List.set_cons_zero,ji,ji,hy];rw [MG (by omega),Rx (by omega)];simp [List.append_assoc]
 | z::xs,i+1,x,hs,hi,hle,hy=>by
   have hz:=hs z (by simp);have ih:=aaT (i:=i) (λu hu=>hs u (wI _ hu)) (by simpa using hi) hle hy;rw [List.set_cons_succ,ji,ji,ih];have t1:∀ (F:List GV) k,(z.cells++F).take (z.cells.length+k)=z.cells++F.take k:=λF k=>by
    rw [List.take_append,lK (by omega),RQ]
   have t2:∀ (F:List GV) k,(z.cells++F).drop (z.cells.length+k)=F.drop k:=λF k=>by
    rw [YA,gY (by omega),bV,RQ]
   have e:(i+1) * sz+off=z.cells.length+(i * sz+off):=by rw [hz,pG];omega
   rw [e,t1,iR z.cells.length,t2];simp [List.append_assoc]
theorem VO:∀ {l:List AV} {ns:List Nat},nodesOf l=some ns->l.all AV.lu=true
 | [],_,_=>rfl
 | a::l,ns,h=>by
   simp only [nodesOf] at h;split at h
   ·next n r hn hr=>
    simp only [qP,aI];exact ⟨by cases a<;>simp [gZ] at hn<;>rfl,VO hr⟩
   ·cases h
theorem ay.split {l m:List AV}:∀ {vs:List Value},ay η (l++m) vs->∃us ws,vs=us++ws/\ay η l us/\ay η m ws:=by
 intro vs h;have hl:=h.length;rw [dH] at hl;refine ⟨vs.take l.length,vs.drop l.length,(CV _ _).symm, ?_, ?_⟩
 ·have:=h.take l.length;rwa [MG (by omega),lK (by omega)] at this
 ·have:=h.drop l.length;rwa [Rx (by omega),gY (by omega),bV] at this
theorem ao8 (h:SR P η σ w) {t:TypeId} {a v:AV} {x y:Value} (hs:QS P t σ a v=some σ') (hx:VR η a x) (hy:VR η v y) :
 ∃w',(Instr.storeAt t x y).run P w=.ok () w'/\St P η σ w η σ' w':=by
 unfold QS at hs;split at hs
 ·next id i off=>
  split at hs
  ·next m et f hg=>
   split at hs
   ·next hc=>
    obtain ⟨hlk,hst⟩:=hc;split at hs
    ·next size vs hsz hvs=>
     split at hs
     ·next m' hm'=>
      cases hs;simp only [VR] at hx;obtain ⟨q,k,j,hq,hj,rfl⟩:=hx;obtain ⟨xs,h1,h2,h3,h4,h5,h6,hsc,hS⟩:=Ie h hg hq;rw [hsz] at h5;cases h5;obtain ⟨gs,g1,g2,g3⟩:=PY hvs (wU hy);obtain ⟨g,k1,k2⟩:=fF hm';simp only [Nd.den,h1,hj,g1] at k2;split at k2
      ·next hj0=>
       split at k2
       ·next u hu=>
        split at k2
        ·next Gz=>
         obtain ⟨z,hz,rfl⟩:=aW.1 k2;obtain ⟨p1,p2,p3,p4⟩:=GV.amx hz g2 (hsc u (qw hu));have hfl:=aaT h2 hu (by omega) p2;have hvl:v.cells.length=gs.length:=by rw [g3.length,(wU hy).length]
         have hjl:j.toNat < xs.length:=(dR.1 hu).1;have hcl:(bC xs).length=xs.length * q.es:=by rw [bC,jX,Jv h2]
         have hle:j.toNat * q.es+off+v.cells.length<=(bC xs).length:=by
          rw [hcl,hvl];have:(j.toNat+1) * q.es<=xs.length * q.es:=qV _ hjl;rw [pG] at this;omega
         have hset:xF (bC xs) (j.toNat * q.es+off) v.cells=some ((bC xs).take (j.toNat * q.es+off)++v.cells++(bC xs).drop (j.toNat * q.es+off+v.cells.length)):=by
          unfold xF;rw [aj hle]
         have ajr:AY P t (jC σ id xs et) (.p id (j.toNat * q.es+off)) v=some ((jC σ id xs et).put id (.cells ((bC xs).take (j.toNat * q.es+off)++v.cells++(bC xs).drop (j.toNat * q.es+off+v.cells.length)) et true true)):=by
          simp only [AY,Ar];rw [aj ⟨hlk,hst,VO hvs⟩,hset];rfl
         obtain ⟨w',hrun,hstp⟩:=QE hS ajr (x:=.pointer (some ⟨q.bl,q.ba+j.toNat * q.es+off,none⟩)) (by simp only [VR];exact ⟨q,hq,by rw [iR]⟩) hy;refine ⟨w',hrun,(LD hg hstp).right ?_ rfl rfl ?_⟩
         ·have hor:=hstp.rel.at (id:=id) (q:=q) (by rw [ak.get_put,aj rfl]) hq
          have hnew:OR P η q w' (.vec m' et f):=by
           refine OR.uZ (λe=>by subst e;exact (h.at hg hq).Q9) k1 ?_ ?_ hor ?_
           ·intro x hx
            rcases YG hx with hx | rfl
            ·exact h2 x hx
            ·rw [p3,Gz]
           ·intro x hx
            rcases YG hx with hx | rfl
            ·exact hsc x hx
            ·exact p4
           ·intro us hus
            have e1:bC (xs.set j.toNat z)=(bC xs).take (j.toNat * q.es+off)++cu gs++(bC xs).drop (j.toNat * q.es+off+gs.length):=by
             unfold bC;rw [hfl,DV,DV,OO,OM]
            rw [e1,<- hvl];obtain ⟨u1,u2,rfl,q1,q2⟩:=ay.split hus;obtain ⟨u3,u4,rfl,q3,q4⟩:=ay.split q1;obtain ⟨gs',g1',_,g3'⟩:=PY hvs q4;rw [g1] at g1';cases g1';exact (q3.append ((lV _ _).1 g3')).append q2
          have hg2:=ak.get_put (jC σ id xs et) id id (.cells ((bC xs).take (j.toNat * q.es+off)++v.cells++(bC xs).drop (j.toNat * q.es+off+v.cells.length)) et true true);rw [aj rfl] at hg2;have:=hstp.rel.swap (o':=.vec m' et f) hg2 rfl (.inl ⟨q,hq,hnew⟩);refine this.sub (λid' o ho=>?_) (dD _);unfold jC;rw [ak.get_put] at ho ⊢;split at ho
          ·next e=>rw [aj e];exact ho
          ·next e=>rw [ah e,ak.get_put,ah e,ak.get_put,ah e];exact ho
         ·intro k' u' hk ho
          rw [ak.get_put] at hk ⊢;split at hk
          ·next e=>rw [aj e];exact ⟨_,rfl,rfl⟩
          ·next e=>
           rw [ah e];unfold jC;rw [ak.get_put,ah e];exact ⟨u',hk,ho⟩
        ·cases k2
       ·cases k2
      ·cases k2
     ·cases hs
    ·cases hs
   ·cases hs
  ·cases hs
 ·cases hs
end
end Go.aN
namespace Go.aN
set_option linter.unusedSimpArgs false
noncomputable section
variable [aF]
set_option linter.unusedSectionVars false
set_option linter.unusedVariables false
variable {P:Program} {η:Env} {σ σ':ak} {w:World}
def Env.ghost (η:Env) (id:Nat):Env:=⟨η.pl,η.ro,λk=>Nat.beq k id || η.gh k⟩
theorem St.ghost (h:SR P η σ w) {τ:ak} {m et:Nat} {f:Bool} (hv:aF.val m=some (.l [])) (hl:τ.lock=σ.lock) (hn:τ.next=σ.next) (hsub:∀k o,τ.get k=some o->σ.get k=some o) :
 St P η σ w (η.ghost σ.next) (τ.new (.vec m et f)) w:=by
 have hle:η.le (η.ghost σ.next):=⟨λ_ _ h=>h,λ_ _ h=>h,λid hg=>by simp [Env.ghost,hg]⟩
 have get:∀k o,(τ.new (.vec m et f)).get k=some o->(k=σ.next/\o=.vec m et f)\/(k≠σ.next/\σ.get k=some o):=by
  intro k o hk;rw [ak.nY,hn] at hk;split at hk
  ·next e=>cases hk;exact .inl ⟨e,rfl⟩
  ·next e=>exact .inr ⟨e,hsub k o hk⟩
 have pl:∀k,(η.ghost σ.next) k=η k:=λ_=>rfl;have none_:∀k q,k=σ.next->η k=some q->False:=λk q e hq=>by have:=h.dom k q hq;omega
 refine ⟨hle,⟨h.kR,λid q hq=>?_,λid o ho=>?_,λid hg=>?_,λid o id' o' q q' a1 a2 a3 a4 a5 a6=>?_,h.iI,λid o q a1 a2 a3=>?_,λp hp=>(h.tabs p hp).mono hle⟩,dD _,λ_ _ _=>rfl,λid o q a1 a2 a3 a4=>?_,rfl,rfl,rfl,hl, ?_, ?_,λ_ h=>.inl h⟩
 ·have:=h.dom id q hq;show id < τ.next+1;omega
 ·rcases get id o ho with ⟨rfl,rfl⟩ | ⟨_,h2⟩
  ·exact .inr ⟨by simp [Env.ghost],m,et,f,rfl,hv⟩
  ·exact (h.live id o h2).mono hle
 ·have hg':(Nat.beq id σ.next || η.gh id)=true:=hg
  rw [lJ] at hg';rcases hg' with hg' | hg'
  ·have e:=bn hg'
   subst e;refine ⟨?_,by show σ.next < τ.next+1;omega⟩;rw [pl];cases hq:η σ.next with
   | none=>rfl
   | some q=>exact absurd (h.dom _ q hq) (by omega)
  ·have:=h.jf id hg'
   exact ⟨this.1,by show id < τ.next+1;omega⟩
 ·rcases get id o a1 with ⟨e,_⟩ | ⟨_,h2⟩
  ·exact (none_ id q e a5).elim
  ·rcases get id' o' a3 with ⟨e,_⟩ | ⟨_,h3⟩
   ·exact (none_ id' q' e a6).elim
   ·exact h.sep id o id' o' q q' h2 a2 h3 a4 a5 a6
 ·rcases get id o a1 with ⟨e,_⟩ | ⟨_,h2⟩
  ·exact (none_ id q e a3).elim
  ·exact h.jQ id o q h2 a2 a3
 ·rcases get id o a1 with ⟨e,_⟩ | ⟨_,h2⟩
  ·exact (none_ id q e a4).elim
  ·exact .inr ⟨id,o,q,h2,a2,a3,a4,rfl⟩
 ·show σ.next<=τ.next+1;omega
 ·rintro id (⟨q,hq⟩ | hg)
  ·exact .inl (.inl ⟨q,hq⟩)
  ·have hg':(Nat.beq id σ.next || η.gh id)=true:=hg
   rw [lJ] at hg';rcases hg' with hg' | hg'
   ·have e:=bn hg'
    right;show σ.next<=id/\id < τ.next+1;omega
   ·exact .inl (.inr hg')
theorem vY:∀ (f:Nat) {m n:Nat} {xs ys:List GV},rU f m n=true->aF.val m=some (.l xs)->aF.val n=some (.l ys)->xs.length=ys.length
 | 0,m,n,xs,ys,h,h1,h2=>by
   have:=bn h;subst this;rw [h1] at h2;cases h2;rfl
 | f+1,m,n,xs,ys,h,h1,h2=>by
   simp only [rU,lJ] at h;rcases h with h | h
   ·have:=bn h;subst this
    rw [h1] at h2;cases h2;rfl
   ·split at h
    ·next z o a i vs hn=>
     obtain ⟨g,g1,g2⟩:=aF.nZ m _ hn (by simp);rw [h1] at g1;cases g1;simp only [Nd.den] at g2;split at g2
     ·next zs k j gs e1 e2 e3=>
      split at g2
      ·split at g2
       ·split at g2
        ·obtain ⟨y,_,e⟩:=aW.1 g2
         cases e;rw [List.length_set];exact vY f h e1 h2
        ·cases g2
       ·cases g2
      ·cases g2
     ·cases g2
    ·next a b hn=>
     obtain ⟨g,g1,g2⟩:=aF.nZ m _ hn (by simp);rw [h1] at g1;cases g1;simp only [Nd.den] at g2;split at g2
     ·next zs us e1 e2=>
      split at g2
      ·next hl=>cases g2;rw [hl];exact vY f h e1 h2
      ·cases g2
     ·cases g2
    ·cases h
theorem aol:∀ (f:Nat) {m n:Nat} {g:GV} {ys:List GV},rU f m n=true->aF.val m=some g->aF.val n=some (.l ys)->∃xs,g=.l xs
 | 0,m,n,g,ys,h,h1,h2=>by
   have:=bn h;subst this;rw [h1] at h2;cases h2;exact ⟨_,rfl⟩
 | f+1,m,n,g,ys,h,h1,h2=>by
   simp only [rU,lJ] at h;rcases h with h | h
   ·have:=bn h;subst this
    rw [h1] at h2;cases h2;exact ⟨_,rfl⟩
   ·split at h
    ·next z o a i vs hn=>
     obtain ⟨g',g1,g2⟩:=aF.nZ m _ hn (by simp);rw [h1] at g1;cases g1;simp only [Nd.den] at g2;split at g2
     ·split at g2
      ·split at g2
       ·split at g2
        ·obtain ⟨y,_,e⟩:=aW.1 g2
         exact ⟨_,e.symm⟩
        ·cases g2
       ·cases g2
      ·cases g2
     ·cases g2
    ·next a b hn=>
     obtain ⟨g',g1,g2⟩:=aF.nZ m _ hn (by simp);rw [h1] at g1;cases g1;simp only [Nd.den] at g2;split at g2
     ·split at g2
      ·cases g2;exact ⟨_,rfl⟩
      ·cases g2
     ·cases g2
    ·cases h
theorem Bo {agg:Bool} {size:Nat} (h1:agg=false->size=1):∀ (n:Nat) {cs:List AV} {ns:List Nat} {vs:List Value},elemsOf agg size n cs=some ns->ay η cs vs->cs.length=n * size->
 ∃gs,valsOf aF.val ns=some gs/\gs.length=n/\ay η (bC gs) vs/\cs.all AV.lu=true/\∀x∈gs,x.cells.length=size/\x.cells.all GV.scalar=true
 | 0,cs,ns,vs,h,hv,hl=>by
   simp only [elemsOf,aT] at h;subst h;have:cs=[]:=jh (by simpa using hl);subst this;exact ⟨[],rfl,rfl,by simpa [bC,cu] using hv,rfl,by simp⟩
 | n+1,cs,ns,vs,h,hv,hl=>by
   simp only [elemsOf] at h;rw [pG,CY] at hl;split at h
   ·next a r ha hr=>
    cases h;obtain ⟨gs,k1,k2,k3,k4,k5⟩:=Bo h1 n hr (hv.drop size) (by simp;omega);have hcs:cs=cs.take size++cs.drop size:=(CV _ _).symm;have hvs:vs=vs.take size++vs.drop size:=(CV _ _).symm;cases agg with
    | true=>
      simp only [if_true] at ha;have hagg:VR η (.agg (cs.take size)) (.agg ⟨vs.take size⟩):=by simp only [VR];exact ⟨_,rfl,hv.take size⟩
      obtain ⟨l,gl,e1,e2,e3,e4,e5⟩:=FI ha hagg;cases e1;refine ⟨.g gl::gs,by simp only [valsOf,e3,k1],by simp [k2], ?_, ?_, ?_⟩
      ·have:bC (.g gl::gs)=cu gl++bC gs:=by unfold bC;rw [ji,DV];rfl
       rw [this,hvs];refine ay.append ?_ k3;simp only [GR] at e5;obtain ⟨us,eu,hu⟩:=e5;cases eu;exact (lV _ _).1 hu
      ·rw [hcs,Yx,aI]
       refine ⟨?_,k4⟩;unfold AZ at ha;simp only at ha;split at ha
       ·next ns hns=>exact VO hns
       ·cases ha
      ·intro x hx
       rcases bU.1 hx with rfl | hx
       ·exact ⟨by show gl.length=size;rw [e2,lX];omega,e4⟩
       ·exact k5 x hx
    | false=>
      have:=h1 rfl;subst this;simp only [gU,if_false] at ha;cases cs with
      | nil=>simp at hl
      | cons c cs=>
        simp only [YD,zk] at ha;simp only [ay] at hv;obtain ⟨x,xs,rfl,hx,hxs⟩:=hv;obtain ⟨g,e1,e2,e3⟩:=ku ha hx;refine ⟨g::gs,by simp only [valsOf,e1,k1],by simp [k2], ?_, ?_, ?_⟩
        ·have:bC (g::gs)=cu g.cells++bC gs:=by unfold bC;rw [ji,DV]
         rw [this,GV.EI e2];simp only [cu,dV,bV];exact ay.cons ((jU _ _).1 e3) (by simpa using k3)
        ·simp only [qP,aI]
         exact ⟨by cases c<;>simp [gZ] at ha<;>rfl,by simpa using k4⟩
        ·intro x hx
         rcases bU.1 hx with rfl | hx
         ·rw [GV.EI e2];exact ⟨rfl,by simp [e2]⟩
         ·exact k5 x hx
   ·cases h
theorem akn (h:SR P η σ w) {e:TypeId} {x:AV} {b size:Nat} {u:Value} {t1 e':TypeId} {xs:List GV} (hl:listOf P σ e x=some b) (hx:VR η x u) (ht:P.underlying t1=some (.slice e')) (hn:sizeT P e=some size) (hv:aF.val b=some (.l xs)) (hs:xs.all (GV.fO size)=true) :
 ∃ys,Src P size t1 u xs.length ys w/\ay η (bC xs) ys:=by
 have hT:BM P t1=true:=by unfold BM;rw [ht]
 have hsz:∀z∈xs,z.cells.length=size/\z.cells.all GV.scalar=true:=by
  intro z hz;rw [List.all_eq_true] at hs;have:=hs z hz;unfold GV.fO at this;rw [aI] at this;exact ⟨Nat.eq_of_beq_eq_true this.1,this.2⟩
 have hone:(bC xs).all AV.lu=true:=by
  unfold bC;refine Ut ?_;rw [List.all_eq_true];intro g hg;obtain ⟨z,hz,hgz⟩:=YF.1 hg;exact List.all_eq_true.1 (hsz z hz).2 g hgz
 unfold listOf at hl;split at hl
 ·next n=>
  cases hl;simp only [VR] at hx;obtain ⟨g,h1,h2,h3⟩:=hx;rw [hv] at h1;cases h1;have hsrc:wz σ size (.ro (cu xs))=some (xs.length,bC xs):=by
   simp only [wz];rw [aj,jX,Us];rfl;rw [List.all_eq_true];intro a ha;rw [tJ] at ha;obtain ⟨z,hz,rfl⟩:=kX.1 ha;rw [Gs,jX,(hsz z hz).1];simp
  exact src_ok h hT hsrc ((jU (.l xs) u).1 h3) hone
 ·obtain ⟨g,h1,h2⟩:=fF hl
  rw [hv] at h1;cases h1;simp only [Nd.den,valsOf,gG,aT,GV.l.injEq] at h2;subst h2;exact src_ok h hT (size:=size) (n:=0) (l:=[]) rfl hx rfl
 ·next id n=>
  split at hl
  ·next m et _ hg=>
   split at hl
   ·next hc=>
    cases hl;rw [aI] at hc;simp only [VR] at hx;obtain ⟨ys,h1,hx⟩:=hx;have hlen:=vY 100 hc.2 hv h1;rcases hx with ⟨q,hq,hle,rfl⟩ | ⟨_,rfl,rfl⟩
    ·obtain ⟨xs',k1,k2,k3,k4,k5,k6,_,hS⟩:=Ie h hg hq
     rw [hv] at k1;cases k1;have e:=bn hc.1;subst e;rw [hn] at k5;cases k5;have hsrc:wz (jC σ id xs e) q.es (.sl id 0 xs.length none)=some (xs.length,bC xs):=by
      simp only [wz,Ar];have:takeN (bC xs) 0 (xs.length * q.es)=some (bC xs):=by
       have hl:(bC xs).length=xs.length * q.es:=by rw [bC,jX,Jv k2]
       unfold takeN;rw [eH,lK (by omega),aj hl]
      rw [this];rfl
     rw [<- hlen] at hle ⊢;exact src_ok hS hT hsrc (by simp only [VR];exact ⟨q,hq,by simpa using hle,by simp⟩) hone
    ·have:xs=[]:=jh (by simpa using hlen)
     subst this;exact src_ok h hT (a:=.dL) (size:=size) (n:=0) (l:=[]) rfl (by simp only [VR]) rfl
   ·cases hl
  ·cases hl
 ·next id off len cap=>
  split at hl
  ·next c et qL opn size' agg hg hn' ha=>
   rw [hn] at hn';cases hn';split at hl
   ·next hc=>
    rw [aI,lJ,aI] at hc;split at hl
    ·next cs hcs=>
     split at hl
     ·next ns hns=>
      have hagg:agg=false->size=1:=by
       intro e;subst e;rcases hc.2 with h1 | h1
       ·simp at h1
       ·exact bn h1
      obtain ⟨g,g1,g2⟩:=fF hl;rw [hv] at g1;cases g1;simp only [VR] at hx;obtain ⟨q,hq,hle,rfl⟩:=hx;obtain ⟨q',hq',ws,elem,fr,hb,rr⟩:=h.obj _ _ hg rfl;rw [hq] at hq';cases hq';have hlc:=(oO hcs).2.1;obtain ⟨gs,k1,k2,k3,k4,_⟩:=Bo (η:=η) hagg len hns (rr.wC hcs) hlc;simp only [Nd.den,k1,gG,aT,GV.l.injEq] at g2;subst g2;obtain ⟨ys,j1,j2⟩:=src_ok h hT (size:=size) (n:=len) (l:=cs) (a:=.sl id off len cap) (by simp only [wz,hg,hcs,gG]) (by simp only [VR];exact ⟨q,hq,hle,rfl⟩) k4;obtain ⟨gs',k1',k2',O5,_⟩:=Bo (η:=η) hagg len hns j2 hlc;rw [k1] at k1';cases k1';rw [k2];exact ⟨ys,j1,O5⟩
     ·cases hl
    ·cases hl
   ·cases hl
  ·cases hl
 ·cases hl
theorem Zp (s:List UInt8):bC (dZ s)=sQ s:=by
 unfold bC dZ sQ;induction s with
 | nil=>rfl
 | cons c s ih=>simp only [iQ,ji,GV.cells,dV,bV,cu,jM,ih]
end
end Go.aN
