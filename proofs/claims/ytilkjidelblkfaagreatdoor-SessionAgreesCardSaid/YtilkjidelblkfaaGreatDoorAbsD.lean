/- Values that are named by nodes: numbers, texts, truth values, parts of what nobody changes. -/
import Derived.Test.YtilkjidelblkfaaGreatDoorAbsC
import Derived.Laws.StructEq
namespace Go.aJ
set_option linter.unusedSimpArgs false
noncomputable section
variable [aG]
set_option linter.unusedSectionVars false
set_option linter.unusedVariables false
variable {P:Program} {η:Env} {σ σ':au} {w:World}
mutual
def jV:GV->AV
 | .b x=>.b x
 | .i k n=>.i k n
 | .s x=>.s x
 | .g cs=>.agg (cZ cs)
 | .l xs=>.ro (cZ xs)
def cZ:List GV->List AV
 | []=>[]
 | a::l=>jV a::cZ l
end
theorem uN:∀l:List GV,cZ l=l.map jV
 | []=>rfl
 | a::l=>by simp [cZ,uN l]
theorem kL (l:List GV):(cZ l).length=l.length:=by rw [uN];simp
theorem Lc (l:List GV) (k:Nat):(cZ l)[k]? = (l[k]?).map jV:=by rw [uN];simp
mutual
theorem kF:∀ (g:GV) (v:Value),GR η.ro g v↔VR η (jV g) v
 | .b _,_=>by simp only [GR,VR,jV]
 | .i _ _,_=>by simp only [GR,VR,jV]
 | .s _,_=>by simp only [GR,VR,jV]
 | .g cs,v=>by
   simp only [GR,VR,jV];constructor
   ·rintro ⟨vs,e,h⟩;exact ⟨vs,e,(mG cs vs).1 h⟩
   ·rintro ⟨vs,e,h⟩;exact ⟨vs,e,(mG cs vs).2 h⟩
 | .l xs,v=>by
   simp only [GR,VR,jV,kL];have hn:cZ xs=[]↔xs=[]:=by cases xs<;>simp [cZ]
   rw [hn];constructor
   ·rintro (h | ⟨bl,off,c,ys,sz,e,hc,h,h1,h2⟩)
    ·exact .inl h
    ·exact .inr ⟨bl,off,c,ys,sz,e,hc,(mG xs ys).1 h,h1,λhne=>h2 (λe=>hne (hn.2 e))⟩
   ·rintro (h | ⟨bl,off,c,ys,sz,e,hc,h,h1,h2⟩)
    ·exact .inl h
    ·exact .inr ⟨bl,off,c,ys,sz,e,hc,(mG xs ys).2 h,h1,λhne=>h2 (λe=>hne (hn.1 e))⟩
theorem mG:∀ (l:List GV) (vs:List Value),aK η.ro l vs↔aA η (cZ l) vs
 | [],_=>by simp only [aK,aA,cZ]
 | a::l,vs=>by
   simp only [aK,aA,cZ];constructor
   ·rintro ⟨x,xs,e,h1,h2⟩;exact ⟨x,xs,e,(kF a x).1 h1,(mG l xs).1 h2⟩
   ·rintro ⟨x,xs,e,h1,h2⟩;exact ⟨x,xs,e,(kF a x).2 h1,(mG l xs).2 h2⟩
end
theorem Iy (g:GV):(jV g).cells=cZ g.cells:=by cases g<;>simp [jV,cZ,AV.cells,GV.cells]
theorem Vm:∀l:List GV,(cZ l).flatMap AV.cells=cZ (l.flatMap GV.cells)
 | []=>rfl
 | a::l=>by
   simp only [cZ,ji,Vm l,Iy];rw [uN,uN,uN,mQ]
theorem GR.cells {g:GV} {v:Value} (h:GR η.ro g v):aA η (cZ g.cells) v.cells.toList:=by rw [<- Iy];exact xO ((kF g v).1 h)
theorem GR.aaI {g:GV} {v:Value} (h:GR η.ro g v):g.cells.length=v.cells.size:=by
 have:=h.cells.length;rw [kL] at this;simpa using this
theorem GV.Gg {g:GV} (h:g.scalar=true):g.cells=[g]:=by cases g<;>first | rfl | (cases h)
theorem alb {g:GV} (h:g.scalar=true):(jV g).lJ=true:=by cases g<;>first | rfl | (cases h)
theorem Vo:∀ {l:List GV},l.all GV.scalar=true->(cZ l).all AV.lJ=true
 | [],_=>rfl
 | a::l,h=>by
   simp only [sF,aI] at h;simp only [cZ,sF,aI];exact ⟨alb h.1,Vo h.2⟩
theorem aK.length {ro:Nat->Option Obj}:∀ {l:List GV} {vs:List Value},aK ro l vs->l.length=vs.length
 | [],vs,h=>by simp only [aK] at h;subst h;rfl
 | a::l,vs,h=>by
   simp only [aK] at h;obtain ⟨x,xs,rfl,_,h2⟩:=h;simp [aK.length h2]
theorem aK.at {ro:Nat->Option Obj}:∀ {l:List GV} {vs:List Value},aK ro l vs->∀ {k:Nat} {a:GV},l[k]? = some a->∃x,vs[k]? = some x/\GR ro a x
 | [],vs,h,k,a,hk=>by simp at hk
 | b::l,vs,h,k,a,hk=>by
   simp only [aK] at h;obtain ⟨x,xs,rfl,h1,h2⟩:=h;cases k with
   | zero=>simp at hk;subst hk;exact ⟨x,by simp,h1⟩
   | succ k=>obtain ⟨y,hy,hv⟩:=aK.at h2 (by simpa using hk);exact ⟨y,by simpa using hy,hv⟩
theorem fM {x:Nd} {n:Nat} (h:eP x=some n):∃g,aG.val n=some g/\x.den aG.I aG.val=some g:=by
 obtain ⟨h1,h2⟩:=akx h;exact aG.oV n x h1 h2
theorem ah6 {m m':Nat} (h:UK m m'=true):(∃k a b,aG.val m=some (.i k a)/\aG.val m'=some (.i k b)/\a≠b)\/(∃a b,aG.val m=some (.s a)/\aG.val m'=some (.s b)/\a≠b):=by
 unfold UK at h;split at h
 ·next k a k' b h1 h2=>
  rw [aI] at h;have:=Qm h.1;subst this;obtain ⟨g,e1,e2⟩:=aG.oV _ _ h1 (by simp);obtain ⟨g',e3,e4⟩:=aG.oV _ _ h2 (by simp);simp only [Nd.den,aT] at e2 e4;subst e2;subst e4;refine .inl ⟨k,a,b,e1,e3,λe=>?_⟩;subst e;rw [(acH (a:=a) (b:=a)).2 rfl] at h;simp at h
 ·next a b h1 h2=>
  obtain ⟨g,e1,e2⟩:=aG.oV _ _ h1 (by simp);obtain ⟨g',e3,e4⟩:=aG.oV _ _ h2 (by simp);simp only [Nd.den,aT] at e2 e4;subst e2;subst e4;refine .inr ⟨a,b,e1,e3,λe=>?_⟩;subst e;rw [(aax (l:=a) (m:=a)).2 rfl] at h;simp at h
 ·cases h
theorem WU {n m:Nat}:∀ {l:List (Nat×Bool)},(∀p∈l,aG.val p.1=some (.b p.2))->DJ n m l=true->(∃k a b,aG.val n=some (.i k b)/\aG.val m=some (.i k a)/\a≠b)\/(∃a b,aG.val n=some (.s b)/\aG.val m=some (.s a)/\a≠b)
 | [],_,h=>by simp [DJ] at h
 | p::l,hl,h=>by
   simp only [DJ,lU] at h;rcases h with h | h
   ·cases hp:p.2 with
    | false=>rw [hp] at h;simp at h
    | true=>
      rw [hp] at h;simp only [cond_true] at h;split at h
      ·next n' m' hn=>
       rw [aI] at h;have e:=bf h.1;subst e;obtain ⟨g,e1,e2⟩:=aG.oV _ _ hn (by simp);have e3:=hl p (by simp);rw [hp,e1] at e3;cases e3;simp only [Nd.den] at e2;rcases ah6 h.2 with ⟨k,a,b,q1,q2,q3⟩ | ⟨a,b,q1,q2,q3⟩
       ·rw [q2] at e2
        split at e2
        ·next x y hx hy=>
         cases hy;cases x<;>simp only [gG,fO,reduceCtorEq] at e2
         split at e2
         ·next e4=>
          subst e4;simp only [aT,GV.b.injEq,beq_iff_eq] at e2;subst e2;exact .inl ⟨_,a,_,hx,q1,q3⟩
         ·cases e2
        ·cases e2
       ·rw [q2] at e2
        split at e2
        ·next x y hx hy=>
         cases hy;cases x<;>simp only [gG,vg,reduceCtorEq] at e2
         simp only [aT,GV.b.injEq,beq_iff_eq] at e2;subst e2;exact .inr ⟨a,_,hx,q1,q3⟩
        ·cases e2
      ·cases h
   ·exact WU (λq hq=>hl q (by simp [hq])) h
theorem aaQ {c n m:Nat} {b:Bool}:∀ {l:List (Nat×Bool)},(∀p∈l,aG.val p.1=some (.b p.2))->H8 c n m l=some b->∃op x y,tC op=c/\aG.val n=some x/\aG.val m=some y/\gG op x y=some (.b b)
 | [],_,h=>by simp [H8] at h
 | p::l,hl,h=>by
   have ih:=λh=>aaQ (c:=c) (n:=n) (m:=m) (b:=b) (l:=l) (λq hq=>hl q (by simp [hq])) h;simp only [H8] at h;split at h
   ·next op n' m' hn=>
    cases hc:Nat.beq n n'&&Nat.beq m m'&&Nat.beq (tC op) c with
    | false=>rw [hc] at h;exact ih h
    | true=>
      rw [hc] at h;simp only [cond_true,aT] at h;rw [aI,aI] at hc;have e1:=bf hc.1.1;have e2:=bf hc.1.2;have e3:=bf hc.2;subst e1;subst e2;obtain ⟨g,g1,g2⟩:=aG.oV _ _ hn (by simp);have g3:=hl p (by simp);rw [g1,h] at g3;cases g3;simp only [Nd.den] at g2;split at g2
      ·next x y hx hy=>exact ⟨op,x,y,e3,hx,hy,g2⟩
      ·cases g2
   ·exact ih h
theorem ah5 {op op':BinOp} {x y g:GV} {r:Bool} (h:CZ op=some op') (h1:gG op' x y=some (.b r)) (h2:gG op x y=some g):g=.b (!r):=by
 cases x with
 | i k a=>
   cases y with
   | i k' b=>
     by_cases e:k=k'
     ·subst e
      unfold CZ at h;split at h<;>cases h<;>simp only [gG,fO,if_true,aT,GV.b.injEq] at h1 h2<;>rw [<- h1,<- h2]<;>congr 1<;>rw [vF]<;>simp<;>omega
     ·unfold CZ at h
      split at h<;>cases h<;>simp only [gG,ah e] at h1<;>cases h1
   | _=>unfold CZ at h;split at h<;>cases h<;>simp [gG] at h1
 | s a=>
   cases y with
   | s b=>
     unfold CZ at h;split at h<;>cases h<;>simp only [gG,vg,aT,GV.b.injEq] at h1 h2<;>rw [<- h1,<- h2]<;>simp
   | _=>unfold CZ at h;split at h<;>cases h<;>simp [gG] at h1
 | _=>unfold CZ at h;split at h<;>cases h<;>simp [gG] at h1
theorem Yg {op:BinOp} {n m:Nat} {b:Bool} {g:GV} (h:MN op n m=some b) (hd:(Nd.bin op n m).den aG.I aG.val=some g):g=.b b:=by
 unfold MN at h;split at h
 ·next op' ho=>
  obtain ⟨r,h1,rfl⟩:=aX.1 h;obtain ⟨op2,x,y,e,hx,hy,h2⟩:=aaQ (λp hp=>aG.yY p.1 p.2 hp) h1;have:=ad3.1 e;subst this;simp only [Nd.den,hx,hy] at hd;exact ah5 ho h2 hd
 ·cases h
theorem ap2 {x:Nd} {b:Bool} {g:GV} (h:Yh x=some b) (hd:x.den aG.I aG.val=some g):g=.b b:=by
 unfold Yh at h;split at h
 ·next n m=>
  cases hk:DJ n m fZ.dec with
  | false=>rw [hk] at h;simp only [cond_false] at h;exact Yg h hd
  | true=>
    rw [hk] at h;cases h;rcases WU (λp hp=>aG.yY p.1 p.2 hp) hk with ⟨k,a,b,q1,q2,q3⟩ | ⟨a,b,q1,q2,q3⟩
    ·simp only [Nd.den,q1,q2,gG,fO,if_true,aT] at hd
     rw [<- hd];simp [Ne.symm q3]
    ·simp only [Nd.den,q1,q2,gG,vg,aT] at hd
     rw [<- hd];simp [Ne.symm q3]
 ·next n m=>
  cases hk:DJ n m fZ.dec with
  | false=>rw [hk] at h;simp only [cond_false] at h;exact Yg h hd
  | true=>
    rw [hk] at h;cases h;rcases WU (λp hp=>aG.yY p.1 p.2 hp) hk with ⟨k,a,b,q1,q2,q3⟩ | ⟨a,b,q1,q2,q3⟩
    ·simp only [Nd.den,q1,q2,gG,fO,if_true,aT] at hd
     rw [<- hd];simp [Ne.symm q3]
    ·simp only [Nd.den,q1,q2,gG,vg,aT] at hd
     rw [<- hd];simp [Ne.symm q3]
 ·exact Yg h hd
 ·cases h
theorem kS {x:Nd} {r:AV} (h:jH x=some r):∃n g,aG.val n=some g/\x.den aG.I aG.val=some g/\∀v,g.scalar=true->GR η.ro g v->VR η r v:=by
 unfold jH at h;split at h
 ·next n hn=>
  obtain ⟨g,h1,h2⟩:=fM hn;refine ⟨n,g,h1,h2,λv hs hv=>?_⟩;split at h
  ·next b hb=>
   cases h;have:=aG.yY n b (KN hb);rw [h1] at this;cases this;simp only [GR] at hv;simp only [VR];exact hv
  ·split at h
   ·next b hb=>
    cases h;have:=ap2 hb h2;subst this;simp only [GR] at hv;simp only [VR];exact hv
   ·cases h
    simp only [VR];exact ⟨g,h1,hs,hv⟩
 ·cases h
theorem ED {a:Option AV} {r:AV} (h:dB a=some r):∃v,a=some v/\∀ (η:Env) (x:Value),VR η v x->VR η r x:=by
 unfold dB at h;split at h
 ·next n=>
  split at h
  ·next b hb=>
   cases h;refine ⟨_,rfl,λη x hx=>?_⟩;have hd:=aG.yY n b (KN hb);simp only [VR] at hx;obtain ⟨g,h1,_,h2⟩:=hx;rw [hd] at h1;cases h1;simp only [GR] at h2;subst h2;simp only [VR]
  ·cases h
 ·exact ⟨r,h,λ_ _ h=>h⟩
theorem kM {a:AV} {n:Nat} {v:Value} (h:iD a=some n) (hv:VR η a v):∃g,aG.val n=some g/\g.scalar=true/\GR η.ro g v:=by
 cases a<;>simp only [iD,reduceCtorEq,aT] at h
 case nd m=>subst h;simpa only [VR] using hv
 case i k m=>obtain ⟨g,h1,h2⟩:=fM h;simp only [Nd.den,aT] at h2;subst h2;exact ⟨_,h1,rfl,by simpa only [VR,GR] using hv⟩
 case b x=>obtain ⟨g,h1,h2⟩:=fM h;simp only [Nd.den,aT] at h2;subst h2;exact ⟨_,h1,rfl,by simpa only [VR,GR] using hv⟩
 case s x=>obtain ⟨g,h1,h2⟩:=fM h;simp only [Nd.den,aT] at h2;subst h2;exact ⟨_,h1,rfl,by simpa only [VR,GR] using hv⟩
 case bT=>obtain ⟨g,h1,h2⟩:=fM h;simp only [Nd.den,valsOf,fK,aT] at h2;subst h2;exact ⟨_,h1,rfl,by simp only [VR] at hv;simp only [GR];exact .inl ⟨trivial,_,hv⟩⟩
theorem QV:∀ {l:List AV} {ns:List Nat} {vs:List Value},nodesOf l=some ns->aA η l vs->∃gs,valsOf aG.val ns=some gs/\gs.all GV.scalar=true/\aK η.ro gs vs
 | [],ns,vs,h,hv=>by simp only [nodesOf,aT] at h;subst h;simp only [aA] at hv;subst hv;exact ⟨[],rfl,rfl,by simp [aK]⟩
 | a::l,ns,vs,h,hv=>by
   simp only [nodesOf] at h;split at h
   ·next n r hn hr=>
    cases h;simp only [aA] at hv;obtain ⟨x,xs,rfl,h1,h2⟩:=hv;obtain ⟨g,g1,g2,g3⟩:=kM hn h1;obtain ⟨gs,k1,k2,k3⟩:=QV hr h2;exact ⟨g::gs,by simp only [valsOf,g1,k1],by simp [g2,k2],by simp only [aK];exact ⟨x,xs,rfl,g3,k3⟩⟩
   ·cases h
theorem Hr {a:AV} {n:Nat} {v:Value} (h:CQ a=some n) (hv:VR η a v):∃l gs,a=.agg l/\gs.length=l.length/\aG.val n=some (.g gs)/\gs.all GV.scalar=true/\GR η.ro (.g gs) v:=by
 unfold CQ at h;split at h
 ·next l=>
  split at h
  ·next ns hns=>
   simp only [VR] at hv;obtain ⟨vs,rfl,hvs⟩:=hv;obtain ⟨gs,g1,g2,g3⟩:=QV hns hvs;obtain ⟨g,h1,h2⟩:=fM h;simp only [Nd.den,g1,g2,if_true,aT] at h2;subst h2;exact ⟨l,gs,rfl,by rw [g3.length,hvs.length],h1,g2,by simp only [GR];exact ⟨vs,rfl,g3⟩⟩
  ·cases h
 ·cases h
theorem aqt {op:BinOp} {t:TypeId} {x y:Operand} {k k':IntKind} {a b:Int} {w:World}:(eqGuard op t x y (.int k a) (.int k' b)).run P w=.ok () w:=by
 unfold eqGuard;cases op<;>rfl
theorem aqu {op:BinOp} {t:TypeId} {x y:Operand} {a b:ByteArray} {w:World}:(eqGuard op t x y (.string a) (.string b)).run P w=.ok () w:=by
 unfold eqGuard;cases op<;>rfl
theorem amd {op:BinOp} {t:TypeId} {k:IntKind} {a b:Int} {g:GV} (h1:op≠.shl) (h2:op≠.shr) (h:fO op k a b=some g):g.scalar=true/\∃z,(binOp op t (.int k a) (.int k b)).run P w=.ok z w/\GR η.ro g z:=by
 cases op<;>simp only [fO,reduceCtorEq] at h
 all_goals first | (exact absurd rfl h1) | (exact absurd rfl h2) | (cases h;done) | skip
 all_goals first
  | (cases h;refine ⟨rfl, ?_⟩;simp only [binOp,ne_eq,not_true_eq_false,if_false,Op.intArith,Op.intCmp,Op.intBits];exact ⟨_,rfl,by simp only [GR]⟩)
  | (split at h;cases h;cases h;next hb=>refine ⟨rfl, ?_⟩;simp only [binOp,ne_eq,not_true_eq_false,if_false,Op.intDiv,hb];exact ⟨_,rfl,by simp only [GR]⟩)
theorem afj {op:BinOp} {t:TypeId} {k k':IntKind} {a b:Int} {g:GV} (ho:op=.shl\/op=.shr) (h:nJ op k a b=some g):g.scalar=true/\∃z,(binOp op t (.int k a) (.int k' b)).run P w=.ok z w/\GR η.ro g z:=by
 unfold nJ at h;split at h
 ·cases h
 ·next hb=>
  rcases ho with rfl | rfl
  ·cases h;refine ⟨rfl, ?_⟩;simp only [binOp,Op.shift,ah hb];exact ⟨_,rfl,by simp only [GR]⟩
  ·cases h;refine ⟨rfl, ?_⟩;simp only [binOp,Op.shift,ah hb];exact ⟨_,rfl,by simp only [GR]⟩
theorem arZ {op:BinOp} {t:TypeId} {a b:List UInt8} {g:GV} (h:vg op a b=some g):g.scalar=true/\∃z,(binOp op t (.string ⟨⟨a⟩⟩) (.string ⟨⟨b⟩⟩)).run P w=.ok z w/\GR η.ro g z:=by
 cases op<;>simp only [vg,reduceCtorEq] at h
 all_goals first | (cases h;done) | skip
 all_goals first | (cases h;refine ⟨rfl, ?_⟩;simp only [binOp,Op.stringOp,toList_mk];exact ⟨_,rfl,by simp only [GR]⟩) | skip
 split at h
 ·next hb=>
  cases h;have:¬ (((⟨⟨a⟩⟩:ByteArray).size+(⟨⟨b⟩⟩:ByteArray).size:Nat):Int) > IntKind.i64.max:=by rw [strSize,strSize];omega
  refine ⟨rfl, ?_⟩;simp only [binOp,Op.stringOp,ah this,aaf];exact ⟨_,rfl,by simp only [GR]⟩
 ·cases h
theorem ahd {op:BinOp} {t:TypeId} {x y:Operand} {g1 g2 g:GV} {u u':Value} (h:gG op g1 g2=some g) (h1:GR η.ro g1 u) (h2:GR η.ro g2 u') :
 g.scalar=true/\∃z,(do eqGuard op t x y u u';binOp op t u u':Sem Value).run P w=.ok z w/\GR η.ro g z:=by
 unfold gG at h;split at h
 ·next k a k' b=>
  simp only [GR] at h1 h2;subst h1;subst h2;simp only [aO,aqt,aN];split at h
  ·exact afj (.inl rfl) h
  ·exact afj (.inr rfl) h
  ·next hn1 hn2=>
   split at h
   ·next hk=>subst hk;exact amd hn1 hn2 h
   ·cases h
 ·next a b=>
  simp only [GR] at h1 h2;subst h1;subst h2;simp only [aO,aqu,aN];exact arZ h
 ·cases h
theorem abu {t:TypeId} (hu:P.underlying t=some .bool) (a b:Bool):(Op.equal t (.bool a) (.bool b)).run P w=.ok (a==b) w:=by
 have H:∀n,(Op.equalIn (n+1) t (.bool a) (.bool b)).run P w=.ok (a==b) w:=λn=>by
  simp only [Op.equalIn,aO,aW hu,aN,aZ]
 exact H 9999
theorem ahb {op:BinOp} {t:TypeId} {x y:Operand} {g1 g2 g:GV} {u u':Value} (hu:P.underlying t=some .bool) (h:OC op g1 g2=some g) (h1:GR η.ro g1 u) (h2:GR η.ro g2 u') :
 g.scalar=true/\∃z,(do eqGuard op t x y u u';binOp op t u u':Sem Value).run P w=.ok z w/\GR η.ro g z:=by
 unfold OC at h;split at h
 ·next a b=>
  simp only [GR] at h1 h2;subst h1;subst h2;split at h
  ·cases h;exact ⟨rfl,_,pU (abu hu a b) rfl rfl,by simp only [GR]⟩
  ·cases h;exact ⟨rfl,_,pV (abu hu a b) rfl rfl,by simp only [GR]⟩
  ·cases h
 ·cases h
theorem abv {w:World} (d:Nat):∀ (fs:List Field) (k:Nat) (ks:List Nat) (xs ys:List Value) (gs hs:List GV) (r:Bool),Jj P fs k=some ks->aK η.ro gs (xs.drop k)->aK η.ro hs (ys.drop k)->kX ks gs hs=some r->
 (Op.eqFields (d+1) ⟨xs⟩ ⟨ys⟩ fs).run P w=.ok r w
 | [],k,ks,xs,ys,gs,hs,r,hp,_,_,he=>by
   simp only [Jj,aT] at hp;subst hp;cases gs with
   | cons g gs=>simp [kX] at he
   | nil=>
     cases hs with
     | cons g gs=>simp [kX] at he
     | nil=>simp only [kX,aT] at he;subst he;simp [Op.eqFields]
 | f::fs,k,ks,xs,ys,gs,hs,r,hp,hx,hy,he=>by
   simp only [Jj] at hp;split at hp
   ·next hc=>
    rw [aI,wK] at hc;obtain ⟨hn,ho⟩:=hc;have ho':=bf ho;split at hp
    ·next a ks' ht hp'=>
     cases hp;cases gs with
     | nil=>simp [kX] at he
     | cons g gs=>
     cases hs with
     | nil=>simp [kX] at he
     | cons g' hs=>
     simp only [aK] at hx hy;obtain ⟨u,us,hxe,hu,hus⟩:=hx;obtain ⟨u',us',hye,hu',alZ⟩:=hy;have hxk:xs[k]? = some u:=by rw [<- List.head?_drop,hxe];rfl
     have hyk:ys[k]? = some u':=by rw [<- List.head?_drop,hye];rfl
     have al0:us=xs.drop (k+1):=by
      have:=rE (List.drop 1) hxe;simpa [qX] using this.symm
     have al1:us'=ys.drop (k+1):=by
      have:=rE (List.drop 1) hye;simpa [qX] using this.symm
     have hagg:nD P f.type=some false:=by
      unfold XT at ht;unfold nD;split at ht<;>first | (next h=>rw [h]) | (cases ht)
     have hpart:∀ (zs:List Value) z,zs[k]? = some z->(part f.type ⟨zs⟩ f.offset).run P w=.ok z w:=by
      intro zs z hz;unfold part;simp only [aO,Gf hagg,aN,fV,if_false];have:(⟨zs⟩:Array Value)[f.offset]? = some z:=by rw [ho'];simpa using hz
      simp only [this,aZ]
     have hne:(f.name ≠ "_"):=by intro e;rw [e] at hn;simp at hn
     have fin:∀b r',(Op.equalIn (d+1) f.type u u').run P w=.ok b w->kX ks' gs hs=some r'->(Op.eqFields (d+1) ⟨xs⟩ ⟨ys⟩ (f::fs)).run P w=.ok (b&&r') w:=by
      intro b r' hb hr';have hrec:=abv (w:=w) d fs (k+1) ks' xs ys gs hs r' hp' (by rw [<- al0];exact hus) (by rw [<- al1];exact alZ) hr';simp only [Op.eqFields,aj hne,aO,hpart _ _ hxk,hpart _ _ hyk,aN,hb];cases b with
      | true=>simpa using hrec
      | false=>simp
     unfold XT at ht;split at ht
     ·next kk hk=>
      cases ht;cases g<;>cases g'<;>simp only [kX,reduceCtorEq] at he
      split at he
      ·next hkk=>
       subst hkk;obtain ⟨r',hr',rfl⟩:=aX.1 he;simp only [GR] at hu hu';subst hu;subst hu';exact fin _ _ (run_equalIn_int w d _ _ _ _ _ hk) hr'
      ·cases he
     ·next hk=>
      cases ht;cases g<;>cases g'<;>simp only [kX,reduceCtorEq] at he
      obtain ⟨r',hr',rfl⟩:=aX.1 he;simp only [GR] at hu hu';subst hu;subst hu';refine fin _ _ ?_ hr';rw [run_equalIn_string w d _ _ _ hk,toList_mk,toList_mk]
     ·next hk=>
      cases ht;cases g<;>cases g'<;>simp only [kX,reduceCtorEq] at he
      obtain ⟨r',hr',rfl⟩:=aX.1 he;simp only [GR] at hu hu';subst hu;subst hu';exact fin _ _ (run_equalIn_bool' w d _ _ _ hk) hr'
     ·cases ht
    ·cases hp
   ·cases hp
theorem ahc {op:BinOp} {t:TypeId} {x y:Operand} {fs:Array Field} {ks:List Nat} {g1 g2 g:GV} {u u':Value} (hu:P.underlying t=some (.struct fs)) (hst:P.stoodInHeld t=false) (heg:P.eqGuardType P.depth t=false) (hp:Jj P fs.toList 0=some ks)
 (h:Hz op ks g1 g2=some g) (h1:GR η.ro g1 u) (h2:GR η.ro g2 u') :
 g.scalar=true/\∃z,(do eqGuard op t x y u u';binOp op t u u':Sem Value).run P w=.ok z w/\GR η.ro g z:=by
 unfold Hz at h;split at h
 ·next a b=>
  simp only [GR] at h1 h2;obtain ⟨vs,rfl,h1⟩:=h1;obtain ⟨us,rfl,h2⟩:=h2;have hfo:P.fieldsOf t=fs:=by unfold Program.fieldsOf;rw [hu]
  have hun:P.underlying t=some (.struct (P.fieldsOf t)):=by rw [hfo];exact hu
  have key:∀r,kX ks a b=some r->(Op.equalIn 10000 t (.agg ⟨vs⟩) (.agg ⟨us⟩)).run P w=.ok r w:=by
   intro r hr;rw [run_equalIn_agg w 9999 t _ _ hun hst,hfo];exact abv (η:=η) 9998 fs.toList 0 ks vs us a b r hp (by simpa using h1) (by simpa using h2) hr
  split at h
  ·obtain ⟨r,hr,rfl⟩:=aX.1 h
   refine ⟨rfl,.bool r, ?_,by simp only [GR]⟩;simp only [aO,run_eqGuard_agg w .eql t x y _ _ heg,aN,run_eql_struct,key r hr]
  ·obtain ⟨r,hr,rfl⟩:=aX.1 h
   refine ⟨rfl,.bool (!r), ?_,by simp only [GR]⟩;simp only [aO,run_eqGuard_agg w .neq t x y _ _ heg,aN,run_neq_struct,key r hr]
  ·cases h
 ·cases h
theorem ar4 {op:BinOp} {t:TypeId} {x y:Operand} {a b v:AV} {u u':Value} (hs:RU P op t a b=some v) (hx:VR η a u) (hy:VR η b u') :
 ∃z,(do eqGuard op t x y u u';binOp op t u u':Sem Value).run P w=.ok z w/\VR η v z:=by
 unfold RU at hs
 have two:∀ {m n:Nat} {nd:Nd},jH nd=some v->(∀g,nd.den aG.I aG.val=some g->g.scalar=true/\∃z,(do eqGuard op t x y u u';binOp op t u u':Sem Value).run P w=.ok z w/\GR η.ro g z)->
  ∃z,(do eqGuard op t x y u u';binOp op t u u':Sem Value).run P w=.ok z w/\VR η v z:=by
  intro m n nd hm hd;obtain ⟨_,g,_,h2,h3⟩:=kS (η:=η) hm;obtain ⟨h4,z,h5,h6⟩:=hd g h2;exact ⟨z,h5,h3 z h4 h6⟩
 have aan:(match iD a,iD b with | some x,some y=>jH (.bin op x y) | _,_=>none)=some v->∃z,(do eqGuard op t x y u u';binOp op t u u':Sem Value).run P w=.ok z w/\VR η v z:=by
  intro hs;split at hs
  ·next m n hm hn=>
   obtain ⟨g1,a1,a2,a3⟩:=kM hm hx;obtain ⟨g2,b1,b2,b3⟩:=kM hn hy;refine two (m:=m) (n:=n) hs λg hg=>?_;simp only [Nd.den,a1,b1] at hg;exact ahd hg a3 b3
  ·cases hs
 split at hs
 ·exact aan hs
 ·exact aan hs
 ·next hu=>
  split at hs
  ·next m n hm hn=>
   obtain ⟨g1,a1,a2,a3⟩:=kM hm hx;obtain ⟨g2,b1,b2,b3⟩:=kM hn hy;refine two (m:=m) (n:=n) hs λg hg=>?_;simp only [Nd.den,a1,b1] at hg;exact ahb hu hg a3 b3
  ·cases hs
 ·next fs hu=>
  split at hs
  ·next hc=>
   rw [aI,wK,wK] at hc;split at hs
   ·next ks m n hks hm hn=>
    obtain ⟨l1,g1,_,_,a1,a2,a3⟩:=Hr hm hx;obtain ⟨l2,g2,_,_,b1,b2,b3⟩:=Hr hn hy;refine two (m:=m) (n:=n) hs λg hg=>?_;simp only [Nd.den,a1,b1] at hg;exact ahc hu hc.1 hc.2 hks hg a3 b3
   ·cases hs
  ·cases hs
 ·next e hu=>
  have rx:∀ {m off:Nat} {u:Value},VR η (.rx m off) u->∃ad,u=.pointer (some ad):=by
   intro m off u h;simp only [VR] at h;obtain ⟨g,bl,base,cs,elem,fr,y,_,_,_,rfl,_⟩:=h;exact ⟨_,rfl⟩
  have pv:∀ {id m off:Nat} {u:Value},VR η (.pv id m off) u->∃ad,u=.pointer (some ad):=by
   intro id m off u h;simp only [VR] at h;obtain ⟨q,k,i,_,_,rfl⟩:=h;exact ⟨_,rfl⟩
  have np:∀ {u:Value},VR η .jB u->u=.pointer none:=by intro u h;simpa only [VR] using h
  split at hs<;>cases hs
  ·obtain ⟨ad,rfl⟩:=rx hx;have:=np hy;subst this;exact ⟨_,pU (Dh hu _) rfl rfl,by simp only [VR]⟩
  ·obtain ⟨ad,rfl⟩:=rx hy;have:=np hx;subst this;exact ⟨_,pU (Df hu _) rfl rfl,by simp only [VR]⟩
  ·obtain ⟨ad,rfl⟩:=rx hx;have:=np hy;subst this;exact ⟨_,pV (Dh hu _) rfl rfl,by simp only [VR];rfl⟩
  ·obtain ⟨ad,rfl⟩:=rx hy;have:=np hx;subst this;exact ⟨_,pV (Df hu _) rfl rfl,by simp only [VR];rfl⟩
  ·obtain ⟨ad,rfl⟩:=pv hx;have:=np hy;subst this;exact ⟨_,pU (Dh hu _) rfl rfl,by simp only [VR]⟩
  ·obtain ⟨ad,rfl⟩:=pv hy;have:=np hx;subst this;exact ⟨_,pU (Df hu _) rfl rfl,by simp only [VR]⟩
  ·obtain ⟨ad,rfl⟩:=pv hx;have:=np hy;subst this;exact ⟨_,pV (Dh hu _) rfl rfl,by simp only [VR];rfl⟩
  ·obtain ⟨ad,rfl⟩:=pv hy;have:=np hx;subst this;exact ⟨_,pV (Df hu _) rfl rfl,by simp only [VR];rfl⟩
 ·cases hs
theorem asL {op:UnOp} {g g':GV} {u:Value} (h:SL op g=some g') (h1:GR η.ro g u):g'.scalar=true/\∃z,(Op.unary op u).run P w=.ok z w/\GR η.ro g' z:=by
 unfold SL at h;split at h
 ·simp only [GR] at h1;subst h1
  split at h
  ·cases h;exact ⟨rfl,_,rfl,by simp only [GR]⟩
  ·cases h
 ·simp only [GR] at h1;subst h1
  split at h
  ·cases h;exact ⟨rfl,_,rfl,by simp only [GR]⟩
  ·simp only [fO,aT] at h
   subst h;exact ⟨rfl,_,rfl,by simp only [GR]⟩
  ·cases h
 ·cases h
theorem ash {op:UnOp} {a v:AV} {u:Value} (hs:Ju op a=some v) (hx:VR η a u):∃z,(Op.unary op u).run P w=.ok z w/\VR η v z:=by
 unfold Ju at hs;split at hs
 ·next n=>
  obtain ⟨_,g,_,h2,h3⟩:=kS (η:=η) hs;simp only [VR] at hx;obtain ⟨g0,a1,a2,a3⟩:=hx;simp only [Nd.den,a1] at h2;obtain ⟨h4,z,h5,h6⟩:=asL (P:=P) (w:=w) h2 a3;exact ⟨z,h5,h3 z h4 h6⟩
 ·cases hs
end
end Go.aJ
namespace Go.aJ
set_option linter.unusedSimpArgs false
noncomputable section
variable [aG]
set_option linter.unusedSectionVars false
set_option linter.unusedVariables false
variable {P:Program} {η:Env} {σ σ':au} {w:World}
theorem SR.swap (h:SR P η σ w) {id:Nat} {o o':aY} (hg:σ.get id=some o) (ho:o'.own=o.own) (hl:Live P η w id o'):SR P η (σ.put id o') w:=by
 have key:∀k u,(σ.put id o').get k=some u->∃u',σ.get k=some u'/\u.own=u'.own:=by
  intro k u hk;rw [au.get_put] at hk;split at hk
  ·next e=>cases hk;subst e;exact ⟨o,hg,ho⟩
  ·exact ⟨u,hk,rfl⟩
 refine ⟨h.kY,h.dom,λk u hk=>?_,h.jq,λk u k' u' q q' h1 h2 h3 hne h5 h6=>?_,h.iP,λk u q h1 h2 h3=>?_,h.tabs⟩
 ·rw [au.get_put] at hk
  split at hk
  ·next e=>cases hk;subst e;exact hl
  ·exact h.live k u hk
 ·obtain ⟨v,a1,a2⟩:=key k u h1
  obtain ⟨v',b1,b2⟩:=key k' u' h3;exact h.sep k v k' v' q q' a1 (a2 ▸ h2) b1 hne h5 h6
 ·obtain ⟨v,a1,a2⟩:=key k u h1
  exact h.ku k v q a1 (a2 ▸ h2) h3
theorem St.left {η':Env} {τ:au} {w':World} (h:St P η τ w η' σ' w') (hl:τ.lock=σ.lock) (hn:τ.next=σ.next) (hk:∀k u,τ.get k=some u->u.own=true->∃u',σ.get k=some u'/\u'.own=true):St P η σ w η' σ' w':=by
 refine ⟨h.ext,h.rel,h.size,λbl hb hno=>h.keep bl hb λk u q a1 a2 a3 a4=>?_,λk u q a1 a2 a3 a4=>?_,h.os,h.tape,h.output,h.lock.trans hl,hn ▸ h.next,hn ▸ h.new,λb hb=>?_⟩
 ·obtain ⟨v,b1,b2⟩:=hk k u a1 a2
  exact hno k v q b1 b2 (hl ▸ a3) a4
 ·rcases h.own k u q a1 a2 (hl ▸ a3) a4 with h1 | ⟨k0,u0,q0,b1,b2,b3,b4,b5⟩
  ·exact .inl h1
  ·obtain ⟨v,c1,c2⟩:=hk k0 u0 b1 b2
   exact .inr ⟨k0,v,q0,c1,c2,hl ▸ b3,b4,b5⟩
 ·rcases h.oZ b hb with h1 | h1 | ⟨k0,u0,q0,b1,b2,b3,b4,b5⟩
  ·exact .inl h1
  ·exact .inr (.inl h1)
  ·obtain ⟨v,c1,c2⟩:=hk k0 u0 b1 b2
   exact .inr (.inr ⟨k0,v,q0,c1,c2,hl ▸ b3,b4,b5⟩)
theorem St.right {η':Env} {τ:au} {w':World} (h:St P η σ w η' σ' w') (rel:SR P η' τ w') (hl:τ.lock=σ'.lock) (hn:τ.next=σ'.next) (hk:∀k u,τ.get k=some u->u.own=true->∃u',σ'.get k=some u'/\u'.own=true):St P η σ w η' τ w':=by
 refine ⟨h.ext,rel,h.size,h.keep,λk u q a1 a2 a3 a4=>?_,h.os,h.tape,h.output,hl.trans h.lock,by rw [hn];exact h.next,by rw [hn];exact h.new,h.oZ⟩;obtain ⟨v,b1,b2⟩:=hk k u a1 a2;exact h.own k v q b1 b2 a3 a4
def bD (xs:List GV):List AV:=cZ (xs.flatMap GV.cells)
theorem KW {xs:List GV} {sz:Nat} (h:∀x∈xs,x.cells.length=sz):(xs.flatMap GV.cells).length=xs.length * sz:=by
 induction xs with
 | nil=>simp
 | cons x xs ih=>
   rw [ji,fG,h x (by simp),ih (λy hy=>h y (by simp [hy])),jK,qC];omega
theorem akG {xs:List GV} {sz:Nat} (h:∀x∈xs,x.cells.length=sz) (i:Nat):(xs.flatMap GV.cells).drop (i * sz)=(xs.drop i).flatMap GV.cells:=by
 induction xs generalizing i with
 | nil=>simp
 | cons x xs ih=>
   cases i with
   | zero=>simp
   | succ i=>
     have hx:=h x (by simp);rw [ji,Zo,fJ (by rw [hx,qC];omega),hx,bn,Tz,<- ih (λy hy=>h y (by simp [hy]))];congr 1;rw [qC];omega
theorem akF {xs:List GV} {sz i:Nat} {x:GV} (h:∀x∈xs,x.cells.length=sz) (hi:xs[i]? = some x):((xs.flatMap GV.cells).drop (i * sz)).take sz=x.cells:=by
 rw [akG h];have:xs.drop i=x::xs.drop (i+1):=by
  obtain ⟨hlt,rfl⟩:=dX.1 hi;exact iC hlt
 have hl:=h x (oL hi);rw [this,ji,NP (by omega),lu (by omega)]
theorem PY (l:List GV) (n:Nat):cZ (l.take n)=(cZ l).take n:=by rw [uN,uN,List.map_take]
theorem PX (l:List GV) (n:Nat):cZ (l.drop n)=(cZ l).drop n:=by rw [uN,uN,List.map_drop]
theorem EI (l m:List GV):cZ (l++m)=cZ l++cZ m:=by rw [uN,uN,uN,mQ]
theorem ungroup:∀ (xs:List GV) (vs:List Value),aA η (bD xs) vs->(∀x∈xs,x.cells.all GV.scalar=true)->∃ys,aK η.ro xs ys/\dh ys=vs/\∀ (k:Nat) x y,xs[k]? = some x->ys[k]? = some y->y.cells.size=x.cells.length
 | [],vs,h,_=>by
   simp only [bD,List.flatMap_nil,cZ,aA] at h;subst h;exact ⟨[],by simp [aK],rfl,by simp⟩
 | x::xs,vs,h,hsc=>by
   have h':aA η (cZ x.cells++bD xs) vs:=by rw [bD,ji,EI] at h;exact h
   have h1:=h'.take x.cells.length;have h2:=h'.drop x.cells.length;rw [NP (by rw [kL];omega),lu (by rw [kL];omega)] at h1;rw [Tv (by rw [kL];omega),fJ (by rw [kL];omega),bn] at h2;obtain ⟨ys,g1,g2,g3⟩:=ungroup xs _ h2 (λy hy=>hsc y (by simp [hy]));have hl:=h1.length;rw [kL] at hl;have fin:∀y,GR η.ro x y->y.cells.toList=vs.take x.cells.length->∃ys,aK η.ro (x::xs) ys/\dh ys=vs/\∀ (k:Nat) x' y,(x::xs)[k]? = some x'->ys[k]? = some y->y.cells.size=x'.cells.length:=by
    intro y hy hyc;refine ⟨y::ys,by simp only [aK];exact ⟨y,ys,rfl,hy,g1⟩, ?_, ?_⟩
    ·have:dh (y::ys)=y.cells.toList++dh ys:=by simp [dh]
     rw [this,hyc,g2,G5]
    ·intro k x' y' hk hk'
     cases k with
     | zero=>simp at hk hk';subst hk;subst hk';rw [hl,<- hyc];simp
     | succ k=>exact g3 k x' y' (by simpa using hk) (by simpa using hk')
   cases x with
   | g cs=>exact fin (.agg ⟨vs.take cs.length⟩) (by simp only [GR];exact ⟨_,rfl,(mG _ _).2 h1⟩) rfl
   | _=>
     simp only [GV.cells,cZ,aA,jK,qy] at h1 hl;obtain ⟨u,us,e1,e2,rfl⟩:=h1;refine fin u ((kF _ _).2 e2) ?_;rw [adZ (GR.oD ((kF _ _).2 e2) rfl)];exact e1.symm
theorem aK.scalars {ro:Nat->Option Obj}:∀ {gs:List GV} {vs:List Value},aK ro gs vs->(∀v∈vs,oD v=true)->gs.all GV.scalar=true
 | [],_,_,_=>rfl
 | g::gs,vs,h,ho=>by
   simp only [aK] at h;obtain ⟨x,xs,rfl,h1,h2⟩:=h;simp only [sF,aI];refine ⟨?_,aK.scalars h2 λv hv=>ho v (by simp [hv])⟩;cases g with
   | g cs=>simp only [GR] at h1;obtain ⟨vs,rfl,_⟩:=h1;have:=ho (.agg ⟨vs⟩) (by simp);simp [oD] at this
   | _=>rfl
theorem OR.I9 {q:Place} {m et:Nat} {f:Bool} (h:OR P η q w (.vec m et f)):∃xs,aG.val m=some (.l xs)/\(∀x∈xs,x.cells.length=q.es)/\et≠0/\0 < q.es/\sizeT P et=some q.es/\xs.length * q.es<=q.sz/\(∀x∈xs,x.cells.all GV.scalar=true)/\OR P η q w (.cells (bD xs) et true true):=by
 obtain ⟨xs,cs,elem,fr,ys,h1,h2,h3,h4,h5,h6,r,h8,_⟩:=h;obtain ⟨a1,a2,a3⟩:=r.room rfl;have hsz:∀x∈xs,x.cells.length=q.es:=by
  intro x hx;obtain ⟨k,hk⟩:=JJ hx;obtain ⟨y,hy,hv⟩:=h3.at hk;rw [hv.aaI];exact h4 y (oL hy)
 have hvs:aA η (bD xs) (dh ys):=by rw [bD,<- Vm];exact abN ((mG _ _).1 h3)
 refine ⟨xs,h1,hsz,a1,a2,a3,h6,h8,cs,elem,fr,h2, { fits:=r.fits,le:=by rw [bD,kL,KW hsz];exact h6,shut:=by simp,cell:=λk a hk=>?_,free:=r.free,whole:=r.whole,room:=r.room }⟩;obtain ⟨v,hv,hr⟩:=hvs.at hk;exact ⟨v,h5 k v hv,hr⟩
theorem OR.SV {q:Place} {m et:Nat} (h:OR P η q w (.vec m et true)):q.es<=q.sz:=by
 obtain ⟨xs,cs,elem,fr,ys,h1,h2,h3,h4,h5,h6,r,h8,h9⟩:=h;exact h9 rfl
theorem OR.wG {q:Place} {m et:Nat} {f:Bool} {xs:List GV} (hf:f=true->q.es<=q.sz) (hv:aG.val m=some (.l xs)) (hsz:∀x∈xs,x.cells.length=q.es) (hsc:∀x∈xs,x.cells.all GV.scalar=true) {c:List AV} (h:OR P η q w (.cells c et true true)) (hc:∀vs,aA η c vs->aA η (bD xs) vs):OR P η q w (.vec m et f):=by
 obtain ⟨cs,elem,fr,h1,r⟩:=h;have hfit:=r.fits;have hle:=r.le;have hcv:aA η c ((cs.toList.drop q.ba).take c.length):=by
  refine aA.of (by simp;omega) λk a hk=>?_;obtain ⟨x,hx,hv⟩:=r.cell k a hk;have hlt:=(dX.1 hk).1;exact ⟨x,by rw [kQ,aj hlt,qw];simpa using hx,hv⟩
 have hg:=hc _ hcv;obtain ⟨ys,g1,g2,g3⟩:=ungroup xs _ hg hsc;have hlen:xs.length * q.es=c.length:=by
  have:=hg.length;rw [bD,kL,KW hsz] at this;rw [this];simp;omega
 refine ⟨xs,cs,elem,fr,ys,hv,h1,g1,λy hy=>?_,λk x hk=>?_,by omega, { fits:=r.fits,le:=by simp,shut:=by simp,cell:=by simp,free:=r.free,whole:=r.whole,room:=r.room },hsc,hf⟩
 ·obtain ⟨k,hk⟩:=JJ hy
  have hkl:k < xs.length:=by rw [g1.length];exact (dX.1 hk).1
  rw [g3 k _ y (bM hkl) hk];exact hsz _ (gU hkl)
 ·rw [g2,kQ] at hk
  split at hk
  ·rw [qw] at hk;simpa using hk
  ·cases hk
def jL (σ:au) (id:Nat) (xs:List GV) (et:TypeId):au:=σ.put id (.cells (bD xs) et true true)
theorem Jy (h:SR P η σ w) {id m et:Nat} {f:Bool} {q:Place} (hg:σ.get id=some (.vec m et f)) (hq:η id=some q):∃xs,aG.val m=some (.l xs)/\(∀x∈xs,x.cells.length=q.es)/\et≠0/\0 < q.es/\sizeT P et=some q.es/\xs.length * q.es<=q.sz/\(∀x∈xs,x.cells.all GV.scalar=true)/\SR P η (jL σ id xs et) w:=by
 obtain ⟨xs,h1,h2,h3,h4,h5,h6,h7,h8⟩:=(h.at hg hq).I9;exact ⟨xs,h1,h2,h3,h4,h5,h6,h7,h.swap hg rfl (.inl ⟨q,hq,h8⟩)⟩
theorem BX {id:Nat} {xs:List GV} {et:TypeId}:(jL σ id xs et).get id=some (.cells (bD xs) et true true):=by unfold jL;rw [au.get_put,aj rfl]
theorem Nj {η':Env} {w':World} {id m et:Nat} {f:Bool} {xs:List GV} (hg:σ.get id=some (.vec m et f)) (h:St P η (jL σ id xs et) w η' σ' w'):St P η σ w η' σ' w':=by
 refine h.left rfl rfl λk u hk ho=>?_;unfold jL at hk;rw [au.get_put] at hk;split at hk
 ·next e=>subst e;exact ⟨_,hg,rfl⟩
 ·exact ⟨u,hk,ho⟩
theorem asR {η':Env} {w':World} {id m et:Nat} {f:Bool} {q:Place} {xs:List GV} (hf:f=true->q.es<=q.sz) (hg:σ.get id=some (.vec m et f)) (hq:η id=some q) (hv:aG.val m=some (.l xs)) (hsz:∀x∈xs,x.cells.length=q.es) (hsc:∀x∈xs,x.cells.all GV.scalar=true) (h:St P η σ w η' (jL σ id xs et) w'):St P η σ w η' σ w':=by
 have hq':=h.ext.pl _ _ hq;have hor:=OR.wG hf hv hsz hsc (h.rel.at BX hq') (λ_ h=>h);refine h.right ((h.rel.swap (o':=.vec m et f) BX rfl (.inl ⟨q,hq',hor⟩)).sub (λk o hk=>?_) (dH _)) rfl rfl (λk o hk ho=>?_)
 ·unfold jL
  rw [au.get_put,au.get_put];split
  ·next e=>rw [e,hg] at hk;exact hk
  ·exact hk
 ·unfold jL
  rw [au.get_put];split
  ·exact ⟨_,rfl,rfl⟩
  ·exact ⟨o,hk,ho⟩
theorem OM {m:Nat} {g:GV} (hv:aG.val m=some g):∀ (n off:Nat) {l:List AV},Ew m off n=some l->∃r,takeN (cZ g.cells) off n=some r/\∀vs,aA η r vs->aA η l vs
 | 0,off,l,h=>by
   simp only [Ew,aT] at h;subst h;exact ⟨[],by simp [takeN],λ_ h=>h⟩
 | n+1,off,l,h=>by
   simp only [Ew] at h;split at h
   ·next a r ha hr=>
    cases h;obtain ⟨_,g',_,h2,h3⟩:=kS (η:=η) ha;simp only [Nd.den,hv] at h2;split at h2
    ·next c hc=>
     split at h2
     ·next hs=>
      cases h2;obtain ⟨r',h4,h5⟩:=OM hv n (off+1) hr;obtain ⟨e1,e2,e3⟩:=qg h4;refine ⟨jV g'::r', ?_, ?_⟩
      ·have hlt:off < g.cells.length:=(dX.1 hc).1
       have hd:(cZ g.cells).drop off=jV g'::(cZ g.cells).drop (off+1):=by
        have hget:(cZ g.cells)[off]? = some (jV g'):=by rw [Lc,hc];rfl
        obtain ⟨hl',he⟩:=dX.1 hget;rw [iC hl',he]
       unfold takeN;simp only [hd,zZ,<- e1,jK,e2,if_true]
      ·intro vs hvs
       simp only [aA] at hvs ⊢;obtain ⟨x,xs,rfl,k1,k2⟩:=hvs;exact ⟨x,xs,rfl,h3 x hs ((kF _ _).2 k1),h5 xs k2⟩
     ·cases h2
    ·cases h2
   ·cases h
theorem YD {t:TypeId} {m off:Nat} {g:GV} {v:AV} (hv:aG.val m=some g) (h:MZ P t m off=some v):∃r,(match nD P t with
 | some true=>match sizeT P t with
   | some n=>(takeN (cZ g.cells) off n).map .agg
   | none=>none
 | some false=>(cZ g.cells)[off]?
 | none=>none)=some r/\∀y,VR η r y->VR η v y:=by
 unfold MZ at h;split at h
 ·next ha=>
  split at h
  ·next n hn=>
   obtain ⟨l,hl,rfl⟩:=aX.1 h;obtain ⟨r,h1,h2⟩:=OM (η:=η) hv n off hl;rw [ha,hn];refine ⟨.agg r,by simp [h1],λy hy=>?_⟩;simp only [VR] at hy ⊢;obtain ⟨vs,rfl,h3⟩:=hy;exact ⟨vs,rfl,h2 vs h3⟩
  ·cases h
 ·next ha=>
  obtain ⟨_,g',_,h2,h3⟩:=kS (η:=η) h;simp only [Nd.den,hv] at h2;split at h2
  ·next c hc=>
   split at h2
   ·next hs=>
    cases h2;rw [ha];exact ⟨jV g',by simp only;rw [Lc,hc];rfl,λy hy=>h3 y hs ((kF _ _).2 hy)⟩
   ·cases h2
  ·cases h2
 ·cases h
theorem asb (h:SR P η σ w) {t:TypeId} {a v:AV} {x:Value} (hs:Si P t σ a=some v) (hx:VR η a x):∃y,(Instr.loadAt t x).run P w=.ok y w/\VR η v y:=by
 unfold Si at hs;split at hs
 ·next m off=>
  simp only [VR] at hx;obtain ⟨g,bl,base,cs,elem,fr,u,h1,h2,h3,rfl,h4⟩:=hx;obtain ⟨r,hr,hv⟩:=YD (η:=η) h1 hs;have hx':VR η (.rp (jV g) off) (.pointer (some ⟨bl,base+off,none⟩)):=by simp only [VR];exact ⟨bl,base,cs,elem,fr,u,h2,(kF _ _).1 h3,rfl,h4⟩
  have hl:uq P t σ (.rp (jV g) off)=some r:=by simp only [uq,Iy];exact hr
  obtain ⟨y,h5,h6⟩:=Dy h hl hx';exact ⟨y,h5,hv y h6⟩
 ·next id i off=>
  split at hs
  ·next m et _ hg=>
   split at hs
   ·next size hsz=>
    split at hs
    ·next e he=>
     simp only [VR] at hx;obtain ⟨q,k,j,hq,hj,rfl⟩:=hx;obtain ⟨xs,h1,h2,h3,h4,h5,_,_,hS⟩:=Jy h hg hq;rw [hsz] at h5;cases h5;obtain ⟨g,g1,g2⟩:=fM he;simp only [Nd.den,h1,hj] at g2;split at g2
     ·next hj0=>
      split at g2
      ·next x hxi=>
       split at g2
       ·next hxl=>
        cases g2;obtain ⟨r,hr,hv⟩:=YD (η:=η) g1 hs;have hat:=akF h2 hxi;have hcell:∀n r',takeN (cZ g.cells) off n=some r'->takeN (bD xs) (j.toNat * q.es+off) n=some r':=by
         intro n r' hr';obtain ⟨e1,e2,e3⟩:=qg hr';rw [kL] at e3;have:((bD xs).drop (j.toNat * q.es+off)).take n=r':=by
          rw [<- qX,bD,<- PX,e1,<- hat,PY,GU,ZB];congr 1;rw [hxl] at e3;omega
         unfold takeN;simp only [this,e2,if_true]
        have hget:∀r',(cZ g.cells)[off]? = some r'->(bD xs)[j.toNat * q.es+off]? = some r':=by
         intro r' hr';have hlt:off < q.es:=by have:=(dX.1 hr').1;rw [kL,hxl] at this;exact this
         rw [<- hat,PY,kQ,aj hlt,PX,qw] at hr';exact hr'
        have hl:uq P t (jL σ id xs et) (.p id (j.toNat * q.es+off))=some r:=by
         simp only [uq,BX];split at hr
         ·next ha=>
          rw [ha];split at hr
          ·next n hn=>
           rw [hn];obtain ⟨r',hr',rfl⟩:=aX.1 hr;simp only [hcell n r' hr',fK]
          ·cases hr
         ·next ha=>rw [ha];exact hget r hr
         ·cases hr
        obtain ⟨y,h5,h6⟩:=Dy hS hl (x:=.pointer (some ⟨q.bl,q.ba+j.toNat * q.es+off,none⟩)) (by simp only [VR];exact ⟨q,hq,by rw [jv]⟩);exact ⟨y,h5,hv y h6⟩
       ·cases g2
      ·cases g2
     ·cases g2
    ·cases hs
   ·cases hs
  ·cases hs
 ·cases hs
theorem ar7 {t:TypeId} {a v:AV} {x:Value} {f:Nat} (h:RX P t a f=some v) (hx:VR η a x):∃y,(Instr.fieldAt t x f).run P w=.ok y w/\VR η v y:=by
 unfold RX at h;split at h
 ·next fields hu=>
  split at h
  ·next fd hf=>
   split at h
   ·next n hn=>
    split at h
    ·cases h
    ·next h0=>
     split at h
     ·next m off=>
      cases h;simp only [VR] at hx;obtain ⟨g,bl,base,cs,elem,fr,u,h1,h2,h3,rfl,h4⟩:=hx;refine ⟨.pointer (some ⟨bl,base+off+fd.offset,none⟩), ?_, ?_⟩
      ·simp [Instr.fieldAt,aW hu,hf,Instr.sureAddr,fieldPlace,iI hn,h0,oO]
      ·simp only [VR];exact ⟨g,bl,base,cs,elem,fr,u,h1,h2,h3,by rw [jv],h4⟩
     ·next id m off=>
      cases h;simp only [VR] at hx;obtain ⟨q,k,i,hq,hi,rfl⟩:=hx;refine ⟨.pointer (some ⟨q.bl,q.ba+i.toNat * q.es+off+fd.offset,none⟩), ?_, ?_⟩
      ·simp [Instr.fieldAt,aW hu,hf,Instr.sureAddr,fieldPlace,iI hn,h0,oO]
      ·simp only [VR];exact ⟨q,k,i,hq,hi,by rw [jv]⟩
     ·cases h
   ·cases h
  ·cases h
 ·cases h
theorem LK {i:Nat} {g:GV} {y:Value} (hg:aG.val i=some g) (hy:GR η.ro g y):∀ {c j:Nat} {k:AV},EW i c j=some k->∃ (kk:IntKind) (m:Int),k=.i .i64 m/\y=.int kk m
 | 0,j,k,h=>by cases h
 | c+1,j,k,h=>by
   unfold EW at h;have key:∀ {r v},jH (.wY i j)=some r->(∀x,VR η r x->VR η (.b v) x)->∃ (kk:IntKind) (m:Int),g=.i kk m/\decide (m=(j:Int))=v:=by
    intro r v hb hv;obtain ⟨_,r',q1,q2,q3⟩:=kS (η:=η) hb;simp only [Nd.den,hg] at q2;cases g with
    | i kk m=>
      simp only [aT] at q2;subst q2;have:=hv _ (q3 (.bool (decide (m=(j:Int)))) rfl (by simp only [GR]));simp only [VR] at this;cases this;exact ⟨kk,m,rfl,rfl⟩
    | _=>cases q2
   have fin:∀ {r},jH (.wY i j)=some r->(∀x,VR η r x->VR η (.b true) x)->some (AV.i .i64 (j:Int))=some k->∃ (kk:IntKind) (m:Int),k=.i .i64 m/\y=.int kk m:=by
    intro r hb hv he;obtain ⟨kk,m,rfl,hm⟩:=key hb hv;cases he;have hm:m=(j:Int):=by simpa using hm
    subst hm;simp only [GR] at hy;exact ⟨kk,_,rfl,hy⟩
   split at h
   ·next hb=>exact fin hb (λ_ h=>h) h
   ·next hb=>exact LK hg hy h
   ·next m hb=>
    split at h
    ·next hd=>
     obtain ⟨v,hv,q4⟩:=ED hd;cases hv;exact fin hb (λx hx=>q4 η x hx) h
    ·next hd=>exact LK hg hy h
    ·cases h
   ·cases h
theorem ar8 (h:SR P η σ w) {t:TypeId} {a i v:AV} {x y:Value} (hs:RZ P σ t a i=some v) (hx:VR η a x) (hy:VR η i y):∃z,(Instr.indexAt t x y).run P w=.ok z w/\VR η v z:=by
 unfold RZ at hs;split at hs
 ·next e hu=>
  split at hs
  ·next size ni hsz hni=>
   obtain ⟨gi,i1,i2,i3⟩:=kM hni hy;split at hs
   ·next n=>
    obtain ⟨m,hm,rfl⟩:=aX.1 hs;obtain ⟨g,g1,g2⟩:=fM hm;simp only [VR] at hx;obtain ⟨gl,l1,l2,l3⟩:=hx;simp only [Nd.den,l1,i1] at g2;split at g2
    ·next xs k j e1 e2=>
     cases e1;cases e2;simp only [GR] at i3;subst i3;split at g2
     ·next hj=>
      split at g2
      ·next z hz=>
       split at g2
       ·next hzl=>
        cases g2;have hl:wV P t (.ro (cZ xs)) (.i k j)=some (.rp (jV g) 0):=by
         have:(cZ xs)[j.toNat]? = some (jV g):=by rw [Lc,hz];rfl
         simp only [wV,hu,uo,hsz,aj hj,this,Iy,kL,hzl,if_true]
        obtain ⟨z',h5,h6⟩:=LD (P:=P) (w:=w) hl ((kF (.l xs) x).1 l3) (by simp only [VR]:VR η (.i k j) (.int k j));refine ⟨z',h5, ?_⟩;simp only [VR] at h6 ⊢;obtain ⟨bl,base,cs,elem,fr,u,k1,k2,k3,k4⟩:=h6;exact ⟨g,bl,base,cs,elem,fr,u,g1,k1,(kF _ _).2 k2,k3,k4⟩
       ·cases g2
      ·cases g2
     ·cases g2
    ·cases g2
   ·next id n=>
    split at hs
    ·next m et _ hg=>
     split at hs
     ·next het=>
      have EM:=bf het;subst EM;obtain ⟨m',hm,rfl⟩:=aX.1 hs;obtain ⟨g,g1,g2⟩:=fM hm;simp only [VR] at hx;obtain ⟨xs,l1,hx⟩:=hx;simp only [Nd.den,l1,i1] at g2;split at g2
      ·next xs' k j e1 e2=>
       cases e1;cases e2;simp only [GR] at i3;subst i3;split at g2
       ·next hj=>
        cases g2;rcases hx with ⟨q,hq,hle,rfl⟩ | ⟨_,rfl,_⟩
        ·obtain ⟨_,_,_,_,_,h5,_⟩:=(h.at hg hq).I9
         rw [hsz] at h5;cases h5;have hl:wV P t (.sl id 0 xs.length none) (.i k j)=some (.p id (0+j.toNat * q.es)):=by
          simp only [wV,hu,uo,hsz,aj hj]
         obtain ⟨z',h6,h7⟩:=LD (P:=P) (w:=w) (x:=.slice (some ⟨q.bl,q.ba,none⟩) xs.length (q.sz / q.es)) hl (by simp only [VR];exact ⟨q,hq,by simpa using hle,by simp⟩) (by simp only [VR]:VR η (.i k j) (.int k j));refine ⟨z',h6, ?_⟩;simp only [VR] at h7 ⊢;obtain ⟨q',hq',rfl⟩:=h7;rw [hq] at hq';cases hq';exact ⟨q,.i64,j,hq,g1,by simp⟩
        ·simp at hj;omega
       ·cases g2
      ·cases g2
     ·cases hs
    ·cases hs
   ·next id off len cap=>
    split at hs
    ·next k hk=>
     obtain ⟨kk,m,rfl,rfl⟩:=LK i1 i3 hk;have hs':wV P t (.sl id off len cap) (.i kk m)=some v:=hs;exact LD hs' hx (by simp only [VR])
    ·cases hs
   ·cases hs
  ·cases hs
 ·next len e hu=>
  split at hs
  ·next ni hi=>
   obtain ⟨g,i1,_,i3⟩:=kM hi hy;split at hs
   ·next k hk=>
    obtain ⟨kk,m,rfl,rfl⟩:=LK i1 i3 hk;have hs':wV P t a (.i kk m)=some v:=hs;exact LD hs' hx (by simp only [VR])
   ·cases hs
  ·cases hs
 ·cases hs
theorem asa {t:TypeId} {ts:Array TypeId} {ty:TypeId} {a v:AV} {x:Value} (ht:ts[0]? = some t) (hs:YC P t a=some v) (hx:VR η a x) :
 ∃y,(Builtin.len_ ts ty #[x]).run P w=.ok y w/\VR η v y:=by
 have aqv:∀s:List UInt8,P.underlying t=some .string->(Builtin.len_ ts ty #[.string ⟨⟨s⟩⟩]).run P w=.ok (.int .i64 s.length) w:=λs hu=>by simp [Builtin.len_,ht,aW hu,goInt,strSize]
 have Rw:∀ (e:TypeId) b (n c:Nat),P.underlying t=some (.slice e)->(Builtin.len_ ts ty #[.slice b n c]).run P w=.ok (.int .i64 n) w:=λe b n c hu=>by simp [Builtin.len_,ht,aW hu,goInt]
 unfold YC at hs;split at hs
 ·next n hu=>
  obtain ⟨_,g,_,h2,h3⟩:=kS (η:=η) hs;simp only [VR] at hx;obtain ⟨g0,a1,a2,a3⟩:=hx;simp only [Nd.den,a1] at h2;split at h2
  ·next s e1=>
   cases e1;cases h2;simp only [GR] at a3;subst a3;exact ⟨_,aqv s hu,h3 _ rfl (by simp only [GR])⟩
  ·cases h2
 ·next e n hu=>
  obtain ⟨_,g,_,h2,h3⟩:=kS (η:=η) hs;simp only [VR] at hx;obtain ⟨g0,a1,a2,a3⟩:=hx;simp only [Nd.den,a1] at h2;split at h2
  ·next xs e1=>
   cases e1;cases h2;simp only [GR] at a3;rcases a3 with ⟨rfl,_,rfl⟩ | ⟨bl,off,c,ys,sz,rfl,_⟩
   ·exact ⟨_,Rw e _ _ _ hu,h3 _ rfl (by simp only [GR];rfl)⟩
   ·exact ⟨_,Rw e _ _ _ hu,h3 _ rfl (by simp only [GR])⟩
  ·cases h2
 ·next e id n hu=>
  obtain ⟨_,g,_,h2,h3⟩:=kS (η:=η) hs;simp only [VR] at hx;obtain ⟨xs,l1,hx⟩:=hx;simp only [Nd.den,l1,aT] at h2;subst h2;rcases hx with ⟨q,hq,hle,rfl⟩ | ⟨_,rfl,rfl⟩
  ·exact ⟨_,Rw e _ _ _ hu,h3 _ rfl (by simp only [GR])⟩
  ·exact ⟨_,Rw e _ _ _ hu,h3 _ rfl (by simp only [GR];rfl)⟩
 ·cases hs
theorem ar9 {t:TypeId} {a i v:AV} {x y:Value} (hs:RY P t a i=some v) (hx:VR η a x) (hy:VR η i y):∃z,(Instr.index t x y).run P w=.ok z w/\VR η v z:=by
 unfold RY at hs;split at hs
 ·next hu=>
  split at hs
  ·next n ni hn hni=>
   obtain ⟨gi,i1,i2,i3⟩:=kM hni hy;obtain ⟨gs,l1,l2,l3⟩:=kM hn hx;obtain ⟨_,g,_,h2,h3⟩:=kS (η:=η) hs;simp only [Nd.den,l1,i1] at h2;split at h2
   ·next s k j e1 e2=>
    cases e1;cases e2;simp only [GR] at i3;subst i3;simp only [GR] at l3;subst l3;split at h2
    ·next hj=>
     split at h2
     ·next c hc=>
      cases h2;have hl:CO P t (.s s) (.i k j)=some (.i .u8 c.toNat):=by simp only [CO,hu,uo,aj hj,hc]
      obtain ⟨z,h5,h6⟩:=VZ (P:=P) (w:=w) (η:=η) hl (by simp only [VR]:VR η (.s s) (.string ⟨⟨s⟩⟩)) (by simp only [VR]:VR η (.i k j) (.int k j));exact ⟨z,h5,h3 z rfl ((kF _ _).2 h6)⟩
     ·cases h2
    ·cases h2
   ·cases h2
  ·cases hs
 ·next len e hu=>
  split at hs
  ·next ni hi=>
   obtain ⟨g,i1,_,i3⟩:=kM hi hy;split at hs
   ·next k hk=>
    obtain ⟨kk,m,rfl,rfl⟩:=LK i1 i3 hk;have hs':CO P t a (.i kk m)=some v:=hs;exact VZ hs' hx (by simp only [VR])
   ·cases hs
  ·cases hs
 ·cases hs
theorem aas {η:Env} {lo:Option AV} {lo':Option Value} {l:Nat} {d:Nd} {gl:GV} (hb:(match lo with | none=>eP d | some a=>iD a)=some l) (ho:jS η lo lo') (hv:aG.val l=some gl) :
 (lo=none/\lo'=none/\d.den aG.I aG.val=some gl)\/(∃v,lo'=some v/\GR η.ro gl v):=by
 cases lo with
 | none=>
   obtain ⟨g,h1,h2⟩:=fM hb;rw [hv] at h1;cases h1;refine .inl ⟨rfl, ?_,h2⟩;cases lo' with
   | none=>rfl
   | some v=>simp [jS] at ho
 | some a=>
   cases lo' with
   | none=>simp [jS] at ho
   | some v=>
     have hv':VR η a v:=by simpa [jS] using ho
     obtain ⟨g,h1,_,h3⟩:=kM hb hv';rw [hv] at h1;cases h1;exact .inr ⟨v,rfl,h3⟩
theorem YE {lo hi:Option AV} {lo' hi':Option Value} {l h:Nat} {d:Nd} {k k':IntKind} {li hn:Int} {len:Nat} (hlo:Ku lo=some l) (hhi:OD d hi=some h) (h1:jS η lo lo') (h2:jS η hi hi')
 (hl:aG.val l=some (.i k li)) (hh:aG.val h=some (.i k' hn)) (hd:d.den aG.I aG.val=some (.i k' hn)->hn=len) (h0:0<=li) (hlh:li<=hn) (hle:hn<=len) :
 ∃lo2 hi2:Option AV,jS η lo2 lo'/\jS η hi2 hi'/\vO len (λh=>Nat.ble h len) lo2 hi2=some (li.toNat,hn.toNat):=by
 have hb1:=aas (d:=.ci .i64 0) (by cases lo<;>exact hlo) h1 hl;have hb2:=aas (d:=d) (by cases hi<;>exact hhi) h2 hh;have hroom:Nat.ble hn.toNat len=true:=ZC (by omega);have hH:∃hi2:Option AV,jS η hi2 hi'/\yN len (λh=>Nat.ble h len) hi2=some hn.toNat:=by
  rcases hb2 with ⟨_,e2,e3⟩ | ⟨v,rfl,e3⟩
  ·refine ⟨none,by rw [e2];simp [jS], ?_⟩
   simp only [yN];rw [hd e3];simp
  ·simp only [GR] at e3;subst e3
   exact ⟨some (.i k' hn),by simp [jS,VR],by simp only [yN,uo];rw [aj ⟨by omega,hroom⟩]⟩
 have hL:∃lo2:Option AV,jS η lo2 lo'/\Hg hn.toNat lo2=some li.toNat:=by
  rcases hb1 with ⟨_,e2,e3⟩ | ⟨v,rfl,e3⟩
  ·refine ⟨none,by rw [e2];simp [jS], ?_⟩
   simp only [Nd.den,aT,GV.i.injEq] at e3;simp only [Hg];rw [<- e3.2];rfl
  ·simp only [GR] at e3;subst e3
   exact ⟨some (.i k li),by simp [jS,VR],by simp only [Hg,uo];rw [aj ⟨h0,by omega⟩]⟩
 obtain ⟨hi2,a1,a2⟩:=hH;obtain ⟨lo2,b1,b2⟩:=hL;exact ⟨lo2,hi2,b1,a1,by simp only [vO,a2,b2]⟩
theorem afE (h:SR P η σ w) {t:TypeId} {a v:AV} {x:Value} {lo hi:Option AV} {lo' hi':Option Value} (hs:Na P t a lo hi=some v) (hx:VR η a x) (hlo:jS η lo lo') (hhi:jS η hi hi') :
 ∃y,(Instr.sliceAt t x lo' hi' none).run P w=.ok y w/\VR η v y:=by
 unfold Na at hs;split at hs
 ·next hu=>
  split at hs
  ·next n hn=>
   split at hs
   ·next l hh h1 h2=>
    obtain ⟨gs,s1,s2,s3⟩:=kM hn hx;obtain ⟨_,g,_,h4,h5⟩:=kS (η:=η) hs;simp only [Nd.den,s1] at h4;split at h4
    ·next s k li k' hi2 e1 e2 e3=>
     cases e1;split at h4
     ·next hc=>
      cases h4;simp only [GR] at s3;subst s3;obtain ⟨lo2,hi3,b1,b2,b3⟩:=YE (len:=s.length) h1 h2 hlo hhi e2 e3 (λhd=>by simp only [Nd.den,s1,aT,GV.i.injEq] at hd;exact hd.2.symm) hc.1 hc.2.1 hc.2.2;have hl:yP P t σ (.s s) lo2 hi3=some (.s ((s.take hi2.toNat).drop li.toNat)):=by simp only [yP,hu,b3,fK]
      obtain ⟨z,h6,h7⟩:=RD h hl (by simp only [VR]:VR η (.s s) (.string ⟨⟨s⟩⟩)) b1 b2;exact ⟨z,h6,h5 z rfl ((kF _ _).2 h7)⟩
     ·cases h4
    ·cases h4
   ·cases hs
  ·cases hs
 ·next e hu=>
  split at hs
  ·next n size hsz=>
   split at hs
   ·next l hh h1 h2=>
    simp only [VR] at hx;obtain ⟨gs,s1,s2,s3⟩:=hx;obtain ⟨_,g,_,h4,h5⟩:=kS (η:=η) hs;simp only [Nd.den,s1] at h4;split at h4
    ·next xs k li k' hi2 e1 e2 e3=>
     cases e1;split at h4
     ·next hc=>
      cases h4;obtain ⟨c1,c2,c3,c4⟩:=hc;obtain ⟨lo2,hi3,b1,b2,b3⟩:=YE (len:=xs.length) h1 h2 hlo hhi e2 e3 (λhd=>by simp only [Nd.den,s1,aT,GV.i.injEq] at hd;exact hd.2.symm) c1 c2 c3;have hl:yP P t σ (.ro (cZ xs)) lo2 hi3=some (.ro (cZ ((xs.take hi2.toNat).drop li.toNat))):=by
       simp only [yP,hu,hsz,kL,b3,Aa];unfold Oj;split
       ·next e=>
        have:(xs.take hi2.toNat).drop li.toNat=[]:=fJ (by simp;omega);rw [this];rfl
       ·next e=>
        have hpos:0 < xs.length:=by omega
        have h0:(cZ xs)[0]? = some (jV xs[0]):=by rw [Lc,bM hpos];rfl
        rw [h0];simp only;have hc0:(jV xs[0]).cells.length=size:=by
         rw [Iy,kL];rw [List.all_eq_true] at c4;exact bf (c4 _ (gU hpos))
        rw [aj hc0,PX,PY]
      obtain ⟨z,h6,h7⟩:=RD h hl ((kF (.l xs) x).1 s3) b1 b2;exact ⟨z,h6,h5 z rfl ((kF _ _).2 (by simpa only [jV] using h7))⟩
     ·cases h4
    ·cases h4
   ·cases hs
  ·cases hs
 ·cases hs
end
end Go.aJ
namespace Go.aJ
set_option linter.unusedSimpArgs false
noncomputable section
variable [aG]
set_option linter.unusedSectionVars false
set_option linter.unusedVariables false
variable {P:Program} {η:Env} {σ σ':au} {w:World}
theorem apc {cs vs r:List GV} {off:Nat} (h:putCells cs off vs=some r):off+vs.length<=cs.length/\r=cs.take off++vs++cs.drop (off+vs.length):=by
 unfold putCells at h;split at h
 ·next hl=>cases h;exact ⟨hl,rfl⟩
 ·cases h
theorem GV.apf {x y:GV} {off:Nat} {vs:List GV} (h:x.put off vs=some y) (hs:vs.all GV.scalar=true) (hx:x.cells.all GV.scalar=true):off+vs.length<=x.cells.length/\y.cells=x.cells.take off++vs++x.cells.drop (off+vs.length)/\y.cells.length=x.cells.length/\y.cells.all GV.scalar=true:=by
 have fin:∀r:List GV,off+vs.length<=x.cells.length->r=x.cells.take off++vs++x.cells.drop (off+vs.length)->r.length=x.cells.length/\r.all GV.scalar=true:=by
  intro r h1 h2;subst h2;refine ⟨by simp;omega, ?_⟩;rw [Zk,Zk,hs];rw [List.all_eq_true] at hx;simp only [Nz,aI,List.all_eq_true];exact ⟨λa ha=>hx a (GZ ha),λa ha=>hx a (JK ha)⟩
 have one:∀v,off=0->vs=[v]->x.cells.length=1->y=v->off+vs.length<=x.cells.length/\y.cells=x.cells.take off++vs++x.cells.drop (off+vs.length)/\y.cells.length=x.cells.length/\y.cells.all GV.scalar=true:=by
  intro v e1 e2 e3 e4;subst e1;subst e2;subst e4;simp only [sF,Zl,Nz] at hs;have hy:y.cells=[y]:=GV.Gg hs;refine ⟨by simp [e3], ?_,by rw [hy,e3];rfl,by rw [hy];simp [hs]⟩;rw [hy,fJ (by rw [e3];simp)];simp
 unfold GV.put at h;split at h
 ·next cs=>
  obtain ⟨r,hr,rfl⟩:=aX.1 h;obtain ⟨h1,h2⟩:=apc hr;obtain ⟨h3,h4⟩:=fin r h1 h2;exact ⟨h1,h2,h3,h4⟩
 ·next hng=>
  have hc:x.cells.length=1:=by
   cases x with
   | g cs=>exact absurd rfl (hng cs)
   | _=>rfl
  split at h
  ·next v=>cases h;exact one y rfl rfl hc rfl
  ·cases h
theorem abP {y:GV} {vs:List GV} {off sz:Nat}:∀ {xs:List GV} {i:Nat} {x:GV},(∀z∈xs,z.cells.length=sz)->xs[i]? = some x->off+vs.length<=sz->y.cells=x.cells.take off++vs++x.cells.drop (off+vs.length)->
 (xs.set i y).flatMap GV.cells=(xs.flatMap GV.cells).take (i * sz+off)++vs++(xs.flatMap GV.cells).drop (i * sz+off+vs.length)
 | [],i,x,_,hi,_,_=>by simp at hi
 | z::xs,0,x,hs,hi,hle,hy=>by
   simp only [iQ,aT] at hi;subst hi;have hz:=hs z (by simp);rw [List.set_cons_zero,ji,ji,hy];rw [NP (by omega),Tv (by omega)];simp [List.append_assoc]
 | z::xs,i+1,x,hs,hi,hle,hy=>by
   have hz:=hs z (by simp);have ih:=abP (i:=i) (λu hu=>hs u (zX _ hu)) (by simpa using hi) hle hy;rw [List.set_cons_succ,ji,ji,ih];have t1:∀ (F:List GV) k,(z.cells++F).take (z.cells.length+k)=z.cells++F.take k:=λF k=>by
    rw [List.take_append,lu (by omega),TN]
   have t2:∀ (F:List GV) k,(z.cells++F).drop (z.cells.length+k)=F.drop k:=λF k=>by
    rw [Zo,fJ (by omega),bn,TN]
   have e:(i+1) * sz+off=z.cells.length+(i * sz+off):=by rw [hz,qC];omega
   rw [e,t1,jv z.cells.length,t2];simp [List.append_assoc]
theorem WV:∀ {l:List AV} {ns:List Nat},nodesOf l=some ns->l.all AV.lJ=true
 | [],_,_=>rfl
 | a::l,ns,h=>by
   simp only [nodesOf] at h;split at h
   ·next n r hn hr=>
    simp only [sF,aI];exact ⟨by cases a<;>simp [iD] at hn<;>rfl,WV hr⟩
   ·cases h
theorem aA.split {l m:List AV}:∀ {vs:List Value},aA η (l++m) vs->∃us ws,vs=us++ws/\aA η l us/\aA η m ws:=by
 intro vs h;have hl:=h.length;rw [fG] at hl;refine ⟨vs.take l.length,vs.drop l.length,(G5 _ _).symm, ?_, ?_⟩
 ·have:=h.take l.length;rwa [NP (by omega),lu (by omega)] at this
 ·have:=h.drop l.length;rwa [Tv (by omega),fJ (by omega),bn] at this
theorem asg (h:SR P η σ w) {t:TypeId} {a v:AV} {x y:Value} (hs:Sv P t σ a v=some σ') (hx:VR η a x) (hy:VR η v y) :
 ∃w',(Instr.storeAt t x y).run P w=.ok () w'/\St P η σ w η σ' w':=by
 unfold Sv at hs;split at hs
 ·next id i off=>
  split at hs
  ·next m et f hg=>
   split at hs
   ·next hc=>
    obtain ⟨hlk,hst⟩:=hc;split at hs
    ·next size vs hsz hvs=>
     split at hs
     ·next m' hm'=>
      cases hs;simp only [VR] at hx;obtain ⟨q,k,j,hq,hj,rfl⟩:=hx;obtain ⟨xs,h1,h2,h3,h4,h5,h6,hsc,hS⟩:=Jy h hg hq;rw [hsz] at h5;cases h5;obtain ⟨gs,g1,g2,g3⟩:=QV hvs (xO hy);obtain ⟨g,k1,k2⟩:=fM hm';simp only [Nd.den,h1,hj,g1] at k2;split at k2
      ·next hj0=>
       split at k2
       ·next u hu=>
        split at k2
        ·next IU=>
         obtain ⟨z,hz,rfl⟩:=aX.1 k2;obtain ⟨p1,p2,p3,p4⟩:=GV.apf hz g2 (hsc u (oL hu));have hfl:=abP h2 hu (by omega) p2;have hvl:v.cells.length=gs.length:=by rw [g3.length,(xO hy).length]
         have hjl:j.toNat < xs.length:=(dX.1 hu).1;have hcl:(bD xs).length=xs.length * q.es:=by rw [bD,kL,KW h2]
         have hle:j.toNat * q.es+off+v.cells.length<=(bD xs).length:=by
          rw [hcl,hvl];have:(j.toNat+1) * q.es<=xs.length * q.es:=sH _ hjl;rw [qC] at this;omega
         have hset:yA (bD xs) (j.toNat * q.es+off) v.cells=some ((bD xs).take (j.toNat * q.es+off)++v.cells++(bD xs).drop (j.toNat * q.es+off+v.cells.length)):=by
          unfold yA;rw [aj hle]
         have alR:CP P t (jL σ id xs et) (.p id (j.toNat * q.es+off)) v=some ((jL σ id xs et).put id (.cells ((bD xs).take (j.toNat * q.es+off)++v.cells++(bD xs).drop (j.toNat * q.es+off+v.cells.length)) et true true)):=by
          simp only [CP,BX];rw [aj ⟨hlk,hst,WV hvs⟩,hset];rfl
         obtain ⟨w',hrun,hstp⟩:=RS hS alR (x:=.pointer (some ⟨q.bl,q.ba+j.toNat * q.es+off,none⟩)) (by simp only [VR];exact ⟨q,hq,by rw [jv]⟩) hy;refine ⟨w',hrun,(Nj hg hstp).right ?_ rfl rfl ?_⟩
         ·have hor:=hstp.rel.at (id:=id) (q:=q) (by rw [au.get_put,aj rfl]) hq
          have hnew:OR P η q w' (.vec m' et f):=by
           refine OR.wG (λe=>by subst e;exact (h.at hg hq).SV) k1 ?_ ?_ hor ?_
           ·intro x hx
            rcases Zx hx with hx | rfl
            ·exact h2 x hx
            ·rw [p3,IU]
           ·intro x hx
            rcases Zx hx with hx | rfl
            ·exact hsc x hx
            ·exact p4
           ·intro us hus
            have e1:bD (xs.set j.toNat z)=(bD xs).take (j.toNat * q.es+off)++cZ gs++(bD xs).drop (j.toNat * q.es+off+gs.length):=by
             unfold bD;rw [hfl,EI,EI,PY,PX]
            rw [e1,<- hvl];obtain ⟨u1,u2,rfl,q1,q2⟩:=aA.split hus;obtain ⟨u3,u4,rfl,q3,q4⟩:=aA.split q1;obtain ⟨gs',g1',_,g3'⟩:=QV hvs q4;rw [g1] at g1';cases g1';exact (q3.append ((mG _ _).1 g3')).append q2
          have hg2:=au.get_put (jL σ id xs et) id id (.cells ((bD xs).take (j.toNat * q.es+off)++v.cells++(bD xs).drop (j.toNat * q.es+off+v.cells.length)) et true true);rw [aj rfl] at hg2;have:=hstp.rel.swap (o':=.vec m' et f) hg2 rfl (.inl ⟨q,hq,hnew⟩);refine this.sub (λid' o ho=>?_) (dH _);unfold jL;rw [au.get_put] at ho ⊢;split at ho
          ·next e=>rw [aj e];exact ho
          ·next e=>rw [ah e,au.get_put,ah e,au.get_put,ah e];exact ho
         ·intro k' u' hk ho
          rw [au.get_put] at hk ⊢;split at hk
          ·next e=>rw [aj e];exact ⟨_,rfl,rfl⟩
          ·next e=>
           rw [ah e];unfold jL;rw [au.get_put,ah e];exact ⟨u',hk,ho⟩
        ·cases k2
       ·cases k2
      ·cases k2
     ·cases hs
    ·cases hs
   ·cases hs
  ·cases hs
 ·cases hs
end
end Go.aJ
namespace Go.aJ
set_option linter.unusedSimpArgs false
noncomputable section
variable [aG]
set_option linter.unusedSectionVars false
set_option linter.unusedVariables false
variable {P:Program} {η:Env} {σ σ':au} {w:World}
def Env.ghost (η:Env) (id:Nat):Env:=⟨η.pl,η.ro,λk=>Nat.beq k id || η.gh k⟩
theorem St.ghost (h:SR P η σ w) {τ:au} {m et:Nat} {f:Bool} (hv:aG.val m=some (.l [])) (hl:τ.lock=σ.lock) (hn:τ.next=σ.next) (hsub:∀k o,τ.get k=some o->σ.get k=some o) :
 St P η σ w (η.ghost σ.next) (τ.new (.vec m et f)) w:=by
 have hle:η.le (η.ghost σ.next):=⟨λ_ _ h=>h,λ_ _ h=>h,λid hg=>by simp [Env.ghost,hg]⟩
 have get:∀k o,(τ.new (.vec m et f)).get k=some o->(k=σ.next/\o=.vec m et f)\/(k≠σ.next/\σ.get k=some o):=by
  intro k o hk;rw [au.oQ,hn] at hk;split at hk
  ·next e=>cases hk;exact .inl ⟨e,rfl⟩
  ·next e=>exact .inr ⟨e,hsub k o hk⟩
 have pl:∀k,(η.ghost σ.next) k=η k:=λ_=>rfl;have none_:∀k q,k=σ.next->η k=some q->False:=λk q e hq=>by have:=h.dom k q hq;omega
 refine ⟨hle,⟨h.kY,λid q hq=>?_,λid o ho=>?_,λid hg=>?_,λid o id' o' q q' a1 a2 a3 a4 a5 a6=>?_,h.iP,λid o q a1 a2 a3=>?_,λp hp=>(h.tabs p hp).mono hle⟩,dH _,λ_ _ _=>rfl,λid o q a1 a2 a3 a4=>?_,rfl,rfl,rfl,hl, ?_, ?_,λ_ h=>.inl h⟩
 ·have:=h.dom id q hq;show id < τ.next+1;omega
 ·rcases get id o ho with ⟨rfl,rfl⟩ | ⟨_,h2⟩
  ·exact .inr ⟨by simp [Env.ghost],m,et,f,rfl,hv⟩
  ·exact (h.live id o h2).mono hle
 ·have hg':(Nat.beq id σ.next || η.gh id)=true:=hg
  rw [lU] at hg';rcases hg' with hg' | hg'
  ·have e:=bf hg'
   subst e;refine ⟨?_,by show σ.next < τ.next+1;omega⟩;rw [pl];cases hq:η σ.next with
   | none=>rfl
   | some q=>exact absurd (h.dom _ q hq) (by omega)
  ·have:=h.jq id hg'
   exact ⟨this.1,by show id < τ.next+1;omega⟩
 ·rcases get id o a1 with ⟨e,_⟩ | ⟨_,h2⟩
  ·exact (none_ id q e a5).elim
  ·rcases get id' o' a3 with ⟨e,_⟩ | ⟨_,h3⟩
   ·exact (none_ id' q' e a6).elim
   ·exact h.sep id o id' o' q q' h2 a2 h3 a4 a5 a6
 ·rcases get id o a1 with ⟨e,_⟩ | ⟨_,h2⟩
  ·exact (none_ id q e a3).elim
  ·exact h.ku id o q h2 a2 a3
 ·rcases get id o a1 with ⟨e,_⟩ | ⟨_,h2⟩
  ·exact (none_ id q e a4).elim
  ·exact .inr ⟨id,o,q,h2,a2,a3,a4,rfl⟩
 ·show σ.next<=τ.next+1;omega
 ·rintro id (⟨q,hq⟩ | hg)
  ·exact .inl (.inl ⟨q,hq⟩)
  ·have hg':(Nat.beq id σ.next || η.gh id)=true:=hg
   rw [lU] at hg';rcases hg' with hg' | hg'
   ·have e:=bf hg'
    right;show σ.next<=id/\id < τ.next+1;omega
   ·exact .inl (.inr hg')
theorem xq:∀ (f:Nat) {m n:Nat} {xs ys:List GV},tJ f m n=true->aG.val m=some (.l xs)->aG.val n=some (.l ys)->xs.length=ys.length
 | 0,m,n,xs,ys,h,h1,h2=>by
   have:=bf h;subst this;rw [h1] at h2;cases h2;rfl
 | f+1,m,n,xs,ys,h,h1,h2=>by
   simp only [tJ,lU] at h;rcases h with h | h
   ·have:=bf h;subst this
    rw [h1] at h2;cases h2;rfl
   ·split at h
    ·next z o a i vs hn=>
     obtain ⟨g,g1,g2⟩:=aG.oV m _ hn (by simp);rw [h1] at g1;cases g1;simp only [Nd.den] at g2;split at g2
     ·next zs k j gs e1 e2 e3=>
      split at g2
      ·split at g2
       ·split at g2
        ·obtain ⟨y,_,e⟩:=aX.1 g2
         cases e;rw [List.length_set];exact xq f h e1 h2
        ·cases g2
       ·cases g2
      ·cases g2
     ·cases g2
    ·next a b hn=>
     obtain ⟨g,g1,g2⟩:=aG.oV m _ hn (by simp);rw [h1] at g1;cases g1;simp only [Nd.den] at g2;split at g2
     ·next zs us e1 e2=>
      split at g2
      ·next hl=>cases g2;rw [hl];exact xq f h e1 h2
      ·cases g2
     ·cases g2
    ·cases h
theorem ars:∀ (f:Nat) {m n:Nat} {g:GV} {ys:List GV},tJ f m n=true->aG.val m=some g->aG.val n=some (.l ys)->∃xs,g=.l xs
 | 0,m,n,g,ys,h,h1,h2=>by
   have:=bf h;subst this;rw [h1] at h2;cases h2;exact ⟨_,rfl⟩
 | f+1,m,n,g,ys,h,h1,h2=>by
   simp only [tJ,lU] at h;rcases h with h | h
   ·have:=bf h;subst this
    rw [h1] at h2;cases h2;exact ⟨_,rfl⟩
   ·split at h
    ·next z o a i vs hn=>
     obtain ⟨g',g1,g2⟩:=aG.oV m _ hn (by simp);rw [h1] at g1;cases g1;simp only [Nd.den] at g2;split at g2
     ·split at g2
      ·split at g2
       ·split at g2
        ·obtain ⟨y,_,e⟩:=aX.1 g2
         exact ⟨_,e.symm⟩
        ·cases g2
       ·cases g2
      ·cases g2
     ·cases g2
    ·next a b hn=>
     obtain ⟨g',g1,g2⟩:=aG.oV m _ hn (by simp);rw [h1] at g1;cases g1;simp only [Nd.den] at g2;split at g2
     ·split at g2
      ·cases g2;exact ⟨_,rfl⟩
      ·cases g2
     ·cases g2
    ·cases h
theorem Dc {agg:Bool} {size:Nat} (h1:agg=false->size=1):∀ (n:Nat) {cs:List AV} {ns:List Nat} {vs:List Value},elemsOf agg size n cs=some ns->aA η cs vs->cs.length=n * size->
 ∃gs,valsOf aG.val ns=some gs/\gs.length=n/\aA η (bD gs) vs/\cs.all AV.lJ=true/\∀x∈gs,x.cells.length=size/\x.cells.all GV.scalar=true
 | 0,cs,ns,vs,h,hv,hl=>by
   simp only [elemsOf,aT] at h;subst h;have:cs=[]:=jh (by simpa using hl);subst this;exact ⟨[],rfl,rfl,by simpa [bD,cZ] using hv,rfl,by simp⟩
 | n+1,cs,ns,vs,h,hv,hl=>by
   simp only [elemsOf] at h;rw [qC,D8] at hl;split at h
   ·next a r ha hr=>
    cases h;obtain ⟨gs,k1,k2,k3,k4,k5⟩:=Dc h1 n hr (hv.drop size) (by simp;omega);have hcs:cs=cs.take size++cs.drop size:=(G5 _ _).symm;have hvs:vs=vs.take size++vs.drop size:=(G5 _ _).symm;cases agg with
    | true=>
      simp only [if_true] at ha;have hagg:VR η (.agg (cs.take size)) (.agg ⟨vs.take size⟩):=by simp only [VR];exact ⟨_,rfl,hv.take size⟩
      obtain ⟨l,gl,e1,e2,e3,e4,e5⟩:=Hr ha hagg;cases e1;refine ⟨.g gl::gs,by simp only [valsOf,e3,k1],by simp [k2], ?_, ?_, ?_⟩
      ·have:bD (.g gl::gs)=cZ gl++bD gs:=by unfold bD;rw [ji,EI];rfl
       rw [this,hvs];refine aA.append ?_ k3;simp only [GR] at e5;obtain ⟨us,eu,hu⟩:=e5;cases eu;exact (mG _ _).1 hu
      ·rw [hcs,Zk,aI]
       refine ⟨?_,k4⟩;unfold CQ at ha;simp only at ha;split at ha
       ·next ns hns=>exact WV hns
       ·cases ha
      ·intro x hx
       rcases bC.1 hx with rfl | hx
       ·exact ⟨by show gl.length=size;rw [e2,mM];omega,e4⟩
       ·exact k5 x hx
    | false=>
      have:=h1 rfl;subst this;simp only [fV,if_false] at ha;cases cs with
      | nil=>simp at hl
      | cons c cs=>
        simp only [TB,Aa] at ha;simp only [aA] at hv;obtain ⟨x,xs,rfl,hx,hxs⟩:=hv;obtain ⟨g,e1,e2,e3⟩:=kM ha hx;refine ⟨g::gs,by simp only [valsOf,e1,k1],by simp [k2], ?_, ?_, ?_⟩
        ·have:bD (g::gs)=cZ g.cells++bD gs:=by unfold bD;rw [ji,EI]
         rw [this,GV.Gg e2];simp only [cZ,bJ,bn];exact aA.cons ((kF _ _).1 e3) (by simpa using k3)
        ·simp only [sF,aI]
         exact ⟨by cases c<;>simp [iD] at ha<;>rfl,by simpa using k4⟩
        ·intro x hx
         rcases bC.1 hx with rfl | hx
         ·rw [GV.Gg e2];exact ⟨rfl,by simp [e2]⟩
         ·exact k5 x hx
   ·cases h
theorem amO (h:SR P η σ w) {e:TypeId} {x:AV} {b size:Nat} {u:Value} {t1 e':TypeId} {xs:List GV} (hl:listOf P σ e x=some b) (hx:VR η x u) (ht:P.underlying t1=some (.slice e')) (hn:sizeT P e=some size) (hv:aG.val b=some (.l xs)) (hs:xs.all (GV.fA size)=true) :
 ∃ys,Src P size t1 u xs.length ys w/\aA η (bD xs) ys:=by
 have hT:Dv P t1=true:=by unfold Dv;rw [ht]
 have hsz:∀z∈xs,z.cells.length=size/\z.cells.all GV.scalar=true:=by
  intro z hz;rw [List.all_eq_true] at hs;have:=hs z hz;unfold GV.fA at this;rw [aI] at this;exact ⟨Nat.eq_of_beq_eq_true this.1,this.2⟩
 have hone:(bD xs).all AV.lJ=true:=by
  unfold bD;refine Vo ?_;rw [List.all_eq_true];intro g hg;obtain ⟨z,hz,hgz⟩:=Zv.1 hg;exact List.all_eq_true.1 (hsz z hz).2 g hgz
 unfold listOf at hl;split at hl
 ·next n=>
  cases hl;simp only [VR] at hx;obtain ⟨g,h1,h2,h3⟩:=hx;rw [hv] at h1;cases h1;have hsrc:xw σ size (.ro (cZ xs))=some (xs.length,bD xs):=by
   simp only [xw];rw [aj,kL,Vm];rfl;rw [List.all_eq_true];intro a ha;rw [uN] at ha;obtain ⟨z,hz,rfl⟩:=nO.1 ha;rw [Iy,kL,(hsz z hz).1];simp
  exact src_ok h hT hsrc ((kF (.l xs) u).1 h3) hone
 ·obtain ⟨g,h1,h2⟩:=fM hl
  rw [hv] at h1;cases h1;simp only [Nd.den,valsOf,fK,aT,GV.l.injEq] at h2;subst h2;exact src_ok h hT (size:=size) (n:=0) (l:=[]) rfl hx rfl
 ·next id n=>
  split at hl
  ·next m et _ hg=>
   split at hl
   ·next hc=>
    cases hl;rw [aI] at hc;simp only [VR] at hx;obtain ⟨ys,h1,hx⟩:=hx;have hlen:=xq 100 hc.2 hv h1;rcases hx with ⟨q,hq,hle,rfl⟩ | ⟨_,rfl,rfl⟩
    ·obtain ⟨xs',k1,k2,k3,k4,k5,k6,_,hS⟩:=Jy h hg hq
     rw [hv] at k1;cases k1;have e:=bf hc.1;subst e;rw [hn] at k5;cases k5;have hsrc:xw (jL σ id xs e) q.es (.sl id 0 xs.length none)=some (xs.length,bD xs):=by
      simp only [xw,BX];have:takeN (bD xs) 0 (xs.length * q.es)=some (bD xs):=by
       have hl:(bD xs).length=xs.length * q.es:=by rw [bD,kL,KW k2]
       unfold takeN;rw [dO,lu (by omega),aj hl]
      rw [this];rfl
     rw [<- hlen] at hle ⊢;exact src_ok hS hT hsrc (by simp only [VR];exact ⟨q,hq,by simpa using hle,by simp⟩) hone
    ·have:xs=[]:=jh (by simpa using hlen)
     subst this;exact src_ok h hT (a:=.bT) (size:=size) (n:=0) (l:=[]) rfl (by simp only [VR]) rfl
   ·cases hl
  ·cases hl
 ·next id off len cap=>
  split at hl
  ·next c et rZ opn size' agg hg hn' ha=>
   rw [hn] at hn';cases hn';split at hl
   ·next hc=>
    rw [aI,lU,aI] at hc;split at hl
    ·next cs hcs=>
     split at hl
     ·next ns hns=>
      have hagg:agg=false->size=1:=by
       intro e;subst e;rcases hc.2 with h1 | h1
       ·simp at h1
       ·exact bf h1
      obtain ⟨g,g1,g2⟩:=fM hl;rw [hv] at g1;cases g1;simp only [VR] at hx;obtain ⟨q,hq,hle,rfl⟩:=hx;obtain ⟨q',hq',ws,elem,fr,hb,rr⟩:=h.obj _ _ hg rfl;rw [hq] at hq';cases hq';have hlc:=(qg hcs).2.1;obtain ⟨gs,k1,k2,k3,k4,_⟩:=Dc (η:=η) hagg len hns (rr.xA hcs) hlc;simp only [Nd.den,k1,fK,aT,GV.l.injEq] at g2;subst g2;obtain ⟨ys,j1,j2⟩:=src_ok h hT (size:=size) (n:=len) (l:=cs) (a:=.sl id off len cap) (by simp only [xw,hg,hcs,fK]) (by simp only [VR];exact ⟨q,hq,hle,rfl⟩) k4;obtain ⟨gs',k1',k2',Qk,_⟩:=Dc (η:=η) hagg len hns j2 hlc;rw [k1] at k1';cases k1';rw [k2];exact ⟨ys,j1,Qk⟩
     ·cases hl
    ·cases hl
   ·cases hl
  ·cases hl
 ·cases hl
theorem aav (s:List UInt8):bD (eU s)=uz s:=by
 unfold bD eU uz;induction s with
 | nil=>rfl
 | cons c s ih=>simp only [gV,ji,GV.cells,bJ,bn,cZ,jV,ih]
end
end Go.aJ
