/- Regions whose order Go leaves open: the evaluator goes by the text, and looks whether another order could make a difference. -/
import Derived.Test.YteenmipdepcibaaGreatDoorAbsE
set_option linter.unusedSimpArgs false
set_option linter.unusedSectionVars false
set_option linter.unusedVariables false
namespace Go.aN
noncomputable section
variable[gG]
def zA(get:Nat->Nat):List Edge->Nat
 |[]=>0
 |e::es=>if Region.binds .any e then(2^e.on |||get e.on) |||zA get es else zA get es
def mD:List Oper->List Nat->List Nat
 |[],acc=>acc
 |o::os,acc=>mD os (acc++[zA (λk=>acc.getD k 0) o.after.toList])
def uf(M:Q2)(j i:Nat):Bool:=(M.getD i 0).testBit j
def xO(M:Q2)(i j:Nat):Bool:=!(Nat.beq i j)&&!(uf M j i)&&!(uf M i j)
def O7:Q2->Nat->Bool
 |[],_=>true
 |m::ms,i=>Nat.blt m (2^i)&&O7 ms (i+1)
def Ep{α:Type}:List (Nat×Option α)->Tr α->Tr α
 |[],t=>t
 |(k,v)::l,t=>Ep l (t.set k v)
def kM{α:Type}(t:Tr α):Q2->Tr α
 |[]=>.nil
 |k::l=>(kM t l).set k (t.get k)
def EM{α:Type}(t:Tr α):Q2->Tr α
 |[]=>t
 |k::l=>EM (t.set k none) l
mutual
def AV.under(c:Nat):AV->Bool
 |.p id _=>Nat.blt id c
 |.sl id _ _ _=>Nat.blt id c
 |.mp id=>Nat.blt id c
 |.fn _ fi cs=>AV.oZ c fi&&AV.oZ c cs
 |.iW _ a=>a.under c
 |.agg l=>AV.oZ c l
 |.dP l=>AV.oZ c l
 |.ro l=>AV.oZ c l
 |.rp a _=>a.under c
 |.sv id _=>Nat.blt id c
 |.pv id _ _=>Nat.blt id c
 |.pd id _=>Nat.blt id c
 |_=>true
def AV.oZ(c:Nat):Q3->Bool
 |[]=>true
 |a::l=>a.under c&&AV.oZ c l
end
def Ac(c:Nat):bn->Bool
 |.cells l _ _ _=>AV.oZ c l
 |.iter _ _=>true
 |.map es=>es.all λe=>e.1.under c&&e.2.under c
 |.iterM (some m)=>Nat.blt m c
 |.iterM none=>true
 |.vec _ _ _=>true
 |.smap _ _ _=>true
 |.pmap es=>es.all λe=>e.2.under c
def NR(c:Nat)(h:Tr bn):Q2->Bool
 |[]=>true
 |k::l=>Nat.blt k c&&(match h.get k with|some o=>Ac c o|none=>true)&&NR c h l
def J6(c:Nat)(t:Tr AV):Q2->Bool
 |[]=>true
 |k::l=>(match t.get k with|some v=>v.under c|none=>true)&&J6 c t l
structure dA where
 slot:List (Nat×Q4)
 upd:WF
 vis:Option Q2
 loc:Q2
 base:Nat
 next:Nat
 fin:Option aA:=none
abbrev We:=List dA
inductive Cls where
 |na (vis:Q2)
 |wr (w:Q2)
 |sa (w:Q2)
 |ca
def asi:AV->List Nat
 |.p id _=>[id]
 |.sl id _ _ _=>[id]
 |.mp id=>[id]
 |.sv id _=>[id]
 |.pv id _ _=>[id]
 |.pd id _=>[id]
 |_=>[]
def xE(ev:QP)(x:Operand):Q2:=match ev x with|some a=>asi a|none=>[]
def adM(o:Oper)(ev:QP):Cls:=
 match o.op with
 |.load _ a=>.na (xE ev a)
 |.indexAddr _ x _=>.na (xE ev x)
 |.store _ a _=>.wr (xE ev a)
 |.box .. |.buildSlice .. |.makeSlice .. |.makeMap ..=>.sa []
 |.convert _ _ x=>.sa (xE ev x)
 |.slice _ x _ _ _=>.na (xE ev x)
 |.lookup _ m _ _=>.na (xE ev m)
 |.mapUpdate _ m _ _|.insert _ m _ _=>.wr (xE ev m)
 |.range _ x=>.sa (xE ev x)
 |.next it _=>.wr (xE ev it)
 |.call c=>match c.callee with
  |.builtin .len=>.na (c.args.toList.flatMap (xE ev))
  |.builtin .append|.builtin .copy|.builtin .clear=>.sa (c.args.toList.flatMap (xE ev))
  |.builtin .unsafeSliceData=>.na (c.args.toList.flatMap (xE ev))
  |.builtin .unsafeString=>.wr (c.args.toList.flatMap (xE ev))
  |.builtin _=>.na []
  |_=>.ca
 |_=>.na []
def sU:Nat:=2^64
def qA(o:Oper)(v:Q4):List (Nat×Q4):=match o.dst with|some d=>[(d,v)]|none=>[]
def ES(τ:aA):Nat->Nat->List (Nat×Option bn)
 |_,0=>[]
 |c,n+1=>(c,match τ.get c with|some o=>if o.own then some o else none|none=>none)::ES τ (c+1) n
def keysOf{α:Type}(l:List (Nat×Option α)):Q2:=l.map (·.1)
def Dv(M:Q2)(i:Nat):We->Nat->List Nat
 |[],_=>[]
 |r::rs,j=>if xO M i j then keysOf r.upd++Dv M i rs (j+1)else Dv M i rs (j+1)
def O4(M:Q2)(i:Nat):We->Nat->List Nat
 |[],_=>[]
 |r::rs,j=>if xO M i j then O4 M i rs (j+1)else keysOf r.upd++O4 M i rs (j+1)
def IX(h:Tr bn)(lock:Nat)(l:Q2):Q2:=l.filter λk=>Nat.ble lock k&&(match h.get k with|some o=>o.own|none=>false)
mutual
def J4:AV->List Nat
 |.p id _|.sl id _ _ _|.mp id|.sv id _|.pv id _ _|.pd id _=>[id]
 |.fn _ fs cs=>J5 fs++J5 cs
 |.iW _ v=>J4 v
 |.agg l=>J5 l
 |.dP l=>J5 l
 |_=>[]
def J5:Q3->List Nat
 |[]=>[]
 |a::l=>J4 a++J5 l
end
def auy:bn->List Nat
 |.cells l _ _ _=>J5 l
 |.map es=>es.flatMap λe=>J4 e.1++J4 e.2
 |.pmap es=>es.flatMap λe=>J4 e.2
 |.iterM (some m)=>[m]
 |_=>[]
def aaR(h:Tr bn):Nat->List Nat->List Nat->List Nat
 |0,_,seen=>seen
 |_+1,[],seen=>seen
 |f+1,k::todo,seen=>bif seen.contains k then aaR h f todo seen else aaR h f ((match h.get k with|some o=>auy o|none=>[])++todo) (k::seen)
def PO(o:Oper)(ev:QP)(h:Tr bn):Q2:=
 aaR h 1000 (o.op.operands.toList.flatMap λx=>match ev x with|some v=>J4 v|none=>[]) []
def atB(ops:W3)(j:Nat):Bool:=match ops[j]? with
 |some o=>match o.op with
  |.buildSlice .. |.makeSlice .. |.makeMap ..=>true
  |_=>false
 |none=>false
def asW(ops:W3)(M:Q2)(i:Nat):Bool:=(List.range ops.size).any λj=>Nat.blt i j&&atB ops j&&xO M i j
def ajn{α:Type}(b:Bool)(x:Unit->Option α):Option α:=bif b then none else x ()
theorem aAE{α:Type}{b:Bool}{x:Unit->Option α}{y:α}(h:ajn b x=some y):x ()=some y:=by
 cases b with
 |true=>cases h
 |false=>exact h
def Aj(P:Program)(call:Caller)(ops:W3)(M:Q2)(N0 lock gn n:Nat)(prev:We)(i:Nat)(t:Tr AV)(h:Tr bn)(c:Nat):Option dA:=
 match ops[i]? with
 |none=>none
 |some o=>
  let a:bg:={t:=kM t (o.looksAt ops),n:=n,gn:=gn}
  match Jt o ops a with
  |none=>none
  |some false=>some {slot:=qA o (some (.dP [])),upd:=[],vis:=some [],loc:=[],base:=c,next:=c}
  |some true=>
   match o.op with
   |.alloc ty=>match yH P ty with
    |some z=>some {slot:=qA o (some (.p (N0+i) 0)),upd:=[(N0+i,some (.cells z ty true false))],vis:=some [],loc:=[],base:=c,next:=c}
    |none=>none
   |_=>
    match adM o a.eval with
    |.na l=>
     match zh P call o a.eval {h:=kM h l,next:=sU,lock:=sU}with
     |some (v,τ)=>if Nat.beq τ.next sU then some {slot:=qA o v,upd:=[],vis:=some l,loc:=[],base:=c,next:=c}else none
     |none=>none
    |.wr l=>
     match zh P call o a.eval {h:=kM h l,next:=sU,lock:=lock}with
     |some (v,τ)=>if Nat.beq τ.next sU then some {slot:=qA o v,upd:=(IX h lock l).map λk=>(k,τ.get k),vis:=some l,loc:=[],base:=c,next:=c}else none
     |none=>none
    |.sa l=>
     if J6 c t (o.looksAt ops)&&NR c h l then
      match zh P call o a.eval {h:=kM h l,next:=c,lock:=lock}with
      |some (v,τ)=>some {slot:=qA o v,upd:=((IX h lock l).map λk=>(k,τ.get k))++ES τ c (τ.next-c),vis:=some l,loc:=[],base:=c,next:=τ.next}
      |none=>none
     else none
    |.ca=>
     match ajn (asW ops M i) (λ_=>zh P call o a.eval {h:=EM h (Dv M i prev 0),next:=c,lock:=c})with
     |some (v,τ)=>some {slot:=qA o v,upd:=ES τ c (τ.next-c),vis:=none,loc:=O4 M i prev 0,base:=c,next:=τ.next}
     |none=>
      if J6 c t (o.looksAt ops)&&NR c h (PO o a.eval h)then
       match zh P call o a.eval {h:=kM h (PO o a.eval h),next:=c,lock:=lock}with
       |some (v,τ)=>some {slot:=qA o v,upd:=((IX h lock (PO o a.eval h)).map λk=>(k,τ.get k))++ES τ c (τ.next-c),vis:=some (PO o a.eval h),loc:=[],base:=c,next:=τ.next}
       |none=>none
      else none
def CS(o:Oper):Bool:=match o.op with
 |.move _|.assign _|.binOp .. |.extract ..=>true
 |_=>false
def nG(ops:W3)(i:Nat):Bool:=match ops[i]? with|some o=>CS o|none=>false
def VY(ops:W3)(M:Q2):Nat->Nat
 |0=>0
 |k+1=>if(nG ops k ||(List.range k).all λj=>nG ops j ||uf M j k)=true then VY ops M k else k+1
def nK(ops:W3)(M:Q2)(i:Nat):Bool:=Nat.ble (VY ops M ops.size) i&&!(nG ops i)
def vw:We->aA->aA
 |[],J=>J
 |r::rs,J=>vw rs (match r.fin with|some τ=>τ|none=>J)
def Ky(P:Program)(call:Caller)(ops:W3)(lock gn n:Nat)(prev:We)(i:Nat)(t:Tr AV)(h:Tr bn)(c:Nat):Option dA:=
 match ops[i]? with
 |none=>none
 |some o=>
  match Jt o ops {t:=kM t (o.looksAt ops),n:=n,gn:=gn}with
  |none=>none
  |some false=>some {slot:=qA o (some (.dP [])),upd:=[],vis:=some [],loc:=[],base:=c,next:=c,fin:=some (vw prev {h:=h,next:=c,lock:=lock})}
  |some true=>match zh P call o (bg.eval {t:=kM t (o.looksAt ops),n:=n,gn:=gn}) (vw prev {h:=h,next:=c,lock:=lock})with
   |some (v,τ)=>some {slot:=qA o v,upd:=[],vis:=some [],loc:=[],base:=c,next:=c,fin:=some τ}
   |none=>none
def xB(P:Program)(call:Caller)(ops:W3)(M:Q2)(N0 lock gn n:Nat)(prev:We)(i:Nat)(t:Tr AV)(h:Tr bn)(c:Nat):Option dA:=
 if nK ops M i=true then Ky P call ops lock gn n prev i t h c else Aj P call ops M N0 lock gn n prev i t h c
def Oi(P:Program)(call:Caller)(ops:W3)(M:Q2)(N0 lock gn n:Nat):Nat->List dA->Nat->Tr AV->Tr bn->Nat->Option (We×Tr AV×Tr bn×Nat)
 |0,prev,_,t,h,c=>some (prev,t,h,c)
 |m+1,prev,i,t,h,c=>
  match xB P call ops M N0 lock gn n prev i t h c with
  |none=>none
  |some r=>Oi P call ops M N0 lock gn n m (prev++[r]) (i+1) (Ep r.slot t) (Ep r.upd h) r.next
def pG(l m:Q2):Bool:=l.all λk=>!(m.contains k)
def Py(ops:W3)(N0:Nat)(i j:Nat)(r s:dA):Bool:=
 let keys:=keysOf s.upd
 pG (keysOf r.slot) (keysOf s.slot)&&
 (match ops[i]? with|some o=>pG (o.looksAt ops) (keysOf s.slot)|none=>false)&&
 pG (keysOf r.upd) keys&&
 (match r.vis with
  |some l=>pG l keys
  |none=>Nat.blt j i ||(keys.all (Nat.ble N0 ·)&&pG r.loc keys&&Nat.beq s.base s.next))
def aiV(ops:W3)(i j:Nat):Bool:=
 match ops[i]?,ops[j]? with
 |some o,some o'=>
  match o'.dst with
  |none=>true
  |some d'=>(match o.dst with|some d=>!(Nat.beq d d')|none=>true)&&!((o.looksAt ops).contains d')
 |_,_=>false
def abe(ops:W3)(M:Q2):Bool:=
 (List.range ops.size).all λi=>(List.range ops.size).all λj=>!(xO M i j) ||aiV ops i j
def SC(N0 i j:Nat)(r s:dA):Bool:=
 pG (keysOf r.upd) (keysOf s.upd)&&
 (match r.vis with
  |some l=>pG l (keysOf s.upd)
  |none=>Nat.blt j i ||((keysOf s.upd).all (Nat.ble N0 ·)&&pG r.loc (keysOf s.upd)&&Nat.beq s.base s.next))
def Yd(M:Q2)(N0:Nat)(rs:We):Bool:=
 rs.zipIdx.all λ(s,j)=>(s.upd.isEmpty&&Nat.beq s.base s.next) ||rs.zipIdx.all λ(r,i)=>!(xO M i j) ||SC N0 i j r s
theorem aeb(l:Q2):pG l []=true:=by unfold pG;simp
theorem au5{ops:W3}{M:Q2}{N0:Nat}{rs:We}(hst:abe ops M=true)(hdy:Yd M N0 rs=true)(OU:∀(i:Nat) r,rs[i]? =some r->∃o v,ops[i]? =some o/\r.slot=qA o v):
 ∀(i j:Nat) r s,rs[i]? =some r->rs[j]? =some s->xO M i j=true->Py ops N0 i j r s=true:=by
 intro i j r s hr hs hu;obtain⟨o,v,ho,hrs⟩:=OU i r hr;obtain⟨o',v',ho',hss⟩:=OU j s hs;have hil:i<ops.size:=(qh.1 ho).1;have hjl:j<ops.size:=(qh.1 ho').1;unfold abe at hst;rw[List.all_eq_true]at hst;have h1:=hst i (by simpa using hil);rw[List.all_eq_true]at h1;have h2:=h1 j (by simpa using hjl);rw[hu]at h2;simp only[WB,zJ,aiV,ho,ho']at h2;have h3:SC N0 i j r s=true:=by
  unfold Yd at hdy;rw[List.all_eq_true]at hdy;have h4:=hdy (s,j) (by rw[ajV];simpa using hs);simp only[nO,aK]at h4;rcases h4 with⟨h5,h6⟩|h4
  ·have h7:s.upd=[]:=by simpa using h5
   unfold SC;rw[h7];simp only[keysOf,jl,aeb,ab7,h6,Bool.and_self,Bool.or_true];cases r.vis<;>rfl
  ·rw[List.all_eq_true]at h4;have h5:=h4 (r,i) (by rw[ajV];simpa using hr);simp only[hu,WB,zJ]at h5;exact h5
 unfold SC at h3;rw[aK]at h3;unfold Py;rw[ho];simp only[hrs,hss,h3.1,h3.2,Qs];unfold qA;cases hd':o'.dst with
 |none=>simp[keysOf,aeb]
 |some d'=>
  rw[hd']at h2;simp only[aK]at h2;rw[aK];constructor
  ·cases hd:o.dst with
   |none=>simp[keysOf,pG]
   |some d=>
    rw[hd]at h2;have:=h2.1;simp only[keysOf,iD,jl,pG,qK,ab7,Qs,yJ]at this⊢;rw[List.contains_cons];simp only[List.contains_nil,Nl];cases hb:d==d' with
    |false=>rfl
    |true=>have e:=eq_of_beq hb;subst e;simp at this
  ·have:=h2.2;simp only[keysOf,iD,jl,pG,List.all_eq_true,yJ]at this⊢;intro k hk;rw[List.contains_cons];simp only[List.contains_nil,Nl];cases hb:k==d' with
   |false=>rfl
   |true=>have e:=eq_of_beq hb;subst e;rw[acd.2 hk]at this;cases this
def aiN(n:Nat)(rs:We):Bool:=rs.all λr=>Nat.ble r.base r.next&&r.slot.all λp=>Nat.blt p.1 n
def Xf(P:Program)(call:Caller)(ops:W3)(a:bg)(J:aA):Option (bg×aA):=
 let M:=mD ops.toList []
 let N0:=J.next
 if O7 M 0&&Nat.ble J.lock J.next then
  match Oi P call ops M N0 J.lock a.gn a.n ops.size [] 0 a.t J.h (N0+ops.size)with
  |some (rs,t,h,c)=>
   if abe ops M&&Yd M N0 rs&&aiN a.n rs&&Nat.ble c sU then
    some ({a with t:=t},vw rs {h:=h,next:=c,lock:=J.lock})
   else none
  |none=>none
 else none
def Xe(P:Program)(call:Caller)(ops:W3)(a:bg)(J:aA):Option (bg×aA):=
 Xf P call ops a J
end
noncomputable section
variable[aH]
theorem Fj{a b:Nat}(h:a≠b):Nat.beq a b=false:=by
 cases e:Nat.beq a b with
 |false=>rfl
 |true=>exact absurd (bD e) h
section
variable{α:Type}
def fM:List (Nat×Option α)->Nat->Option (Option α)
 |[],_=>none
 |(k,v)::l,b=>match fM l b with
  |some x=>some x
  |none=>if b=k then some v else none
theorem YA:∀(l:List (Nat×Option α))(t:Tr α)(b:Nat),(Ep l t).get b=(fM l b).getD (t.get b)
 |[],t,b=>rfl
 |(k,v)::l,t,b=>by
  rw[Ep,YA l,fM];cases fM l b with
  |some x=>rfl
  |none=>simp only[uD,Tr.vY];split<;>rfl
theorem yu:∀(l:List (Nat×Option α))(b:Nat),fM l b≠none↔b∈keysOf l
 |[],b=>by simp[fM,keysOf]
 |(k,v)::l,b=>by
  have ih:=yu l b;simp only[keysOf,iD,bG]at ih⊢;rw[fM];cases h:fM l b with
  |some x=>rw[h]at ih;simp only[ne_eq,reduceCtorEq,not_false_eq_true,true_iff]at ih;simp[ih]
  |none=>rw[h]at ih;simp only[ne_eq,not_true_eq_false,false_iff]at ih;simp only[ih,or_false];split<;>simp_all
theorem O5{l:List (Nat×Option α)}{b:Nat}(h:b∉keysOf l):fM l b=none:=by
 cases h':fM l b with
 |none=>rfl
 |some x=>exact absurd ((yu l b).1 (by rw[h'];simp)) h
def lC:List (List (Nat×Option α))->Nat->(Nat->Bool)->Nat->Option (Option α)
 |[],_,_,_=>none
 |u::us,k,D,b=>match lC us (k+1) D b with
  |some x=>some x
  |none=>if D k=true then fM u b else none
def jM:List (List (Nat×Option α))->Nat->(Nat->Bool)->Tr α->Tr α
 |[],_,_,t=>t
 |u::us,k,D,t=>jM us (k+1) D (if D k=true then Ep u t else t)
theorem CW:∀(us:List (List (Nat×Option α)))(k:Nat)(D:Nat->Bool)(t:Tr α)(b:Nat),(jM us k D t).get b=(lC us k D b).getD (t.get b)
 |[],_,_,_,_=>rfl
 |u::us,k,D,t,b=>by
  rw[jM,CW us,lC];cases lC us (k+1) D b with
  |some x=>rfl
  |none=>
   simp only[uD];split
   ·rw[YA]
   ·rfl
def jf:List (List (Nat×Option α))->Tr α->Tr α
 |[],t=>t
 |u::us,t=>jf us (Ep u t)
theorem Le:∀(us:List (List (Nat×Option α)))(k:Nat)(D E:Nat->Bool)(b:Nat),(∀(j:Nat) u,us[j]? =some u->D (k+j)≠E (k+j)->fM u b=none)->lC us k D b=lC us k E b
 |[],_,_,_,_,_=>rfl
 |u::us,k,D,E,b,h=>by
  have ih:=Le us (k+1) D E b (λj v hj hne=>h (j+1) v (by simpa using hj) (by rw[show k+(j+1)=k+1+j by omega];exact hne));have h0:=h 0 u (by simp);rw[lC,lC,ih];cases lC us (k+1) E b with
  |some x=>rfl
  |none=>
   simp only[nC]at h0;by_cases e:D k=E k
   ·rw[e]
   ·rw[h0 e];simp
theorem asT(us:List (List (Nat×Option α)))(k:Nat)(D:Nat->Bool)(b:Nat)(h:∀j,j<us.length->D (k+j)=false):lC us k D b=none:=by
 induction us generalizing k with
 |nil=>rfl
 |cons u us ih=>rw[lC,ih (k+1) (λj hj=>by rw[show k+1+j=k+(j+1) by omega];exact h (j+1) (by simpa using hj))];have:=h 0 (by simp);simp only[nC]at this;simp[this]
theorem Zo:∀(us:List (List (Nat×Option α)))(k:Nat)(D:Nat->Bool)(b:Nat)(x:Option α),lC us k D b=some x->∃(j:Nat)(u:List (Nat×Option α)),us[j]? =some u/\D (k+j)=true/\fM u b=some x
 |[],_,_,_,_,h=>by simp[lC]at h
 |u::us,k,D,b,x,h=>by
  rw[lC]at h;split at h
  ·next y hy=>
   cases h;obtain⟨j,v,h1,h2,h3⟩:=Zo us (k+1) D b _ hy;exact⟨j+1,v,by simpa using h1,by rw[show k+(j+1)=k+1+j by omega];exact h2,h3⟩
  ·split at h
   ·next hd=>exact⟨0,u,by simp,by simpa using hd,h⟩
   ·cases h
theorem KN:∀(us:List (List (Nat×Option α)))(i k:Nat)(t:Tr α)(b:Nat),(jf (us.take i) t).get b=(lC us k (λj=>decide (j<k+i)) b).getD (t.get b)
 |[],i,k,t,b=>by simp[jf,lC]
 |u::us,0,k,t,b=>by rw[asT _ _ _ _ (λj _=>by simp)];rfl
 |u::us,i+1,k,t,b=>by
  have ih:=KN us i (k+1) (Ep u t) b;simp only[BL,jf];rw[ih,lC];have:(λj=>decide (j<k+1+i))=λj=>decide (j<k+(i+1)):=by funext j;congr 1;apply propext;omega
  rw[this];cases lC us (k+1) (λj=>decide (j<k+(i+1))) b with
  |some x=>rfl
  |none=>simp only[uD];rw[aj (by simp),YA]
theorem Zn:∀(us:List (List (Nat×Option α)))(k i:Nat)(D:Nat->Bool)(b:Nat)(u:List (Nat×Option α)),us[i]? =some u->D (k+i)=false->
 (∀(j:Nat) v,us[j]? =some v->i<j->D (k+j)=true->fM u b≠none->fM v b=none)->
 lC us k (λj=>D j ||Nat.beq j (k+i)) b=match fM u b with|some x=>some x|none=>lC us k D b
 |[],_,_,_,_,_,h,_,_=>by simp at h
 |v::us,k,0,D,b,u,h,hD,hdis=>by
  simp at h;subst h;have tail:lC us (k+1) (λj=>D j ||Nat.beq j (k+0)) b=lC us (k+1) D b:=by refine Le _ _ _ _ _ λj w hj hne=>?_;exfalso;apply hne;have:Nat.beq (k+1+j) (k+0)=false:=Fj (by omega);simp only[this,Nl]
  simp only[lC,tail];simp only[nC]at hD⊢;have hb:Nat.beq k k=true:=by simp
  cases hl:fM v b with
  |none=>simp[hb,hD,hl]
  |some x=>
   have:lC us (k+1) D b=none:=by
    cases ht:lC us (k+1) D b with
    |none=>rfl
    |some y=>obtain⟨j,w,h1,h2,h3⟩:=Zo _ _ _ _ _ ht;have:=hdis (j+1) w (by simpa using h1) (by omega) (by rw[show k+(j+1)=k+1+j by omega];exact h2) (by rw[hl];simp);rw[this]at h3;cases h3
   simp[this,hb,hl]
 |v::us,k,i+1,D,b,u,h,hD,hdis=>by
  have ih:=Zn us (k+1) i D b u (by simpa using h) (by rw[show k+1+i=k+(i+1) by omega];exact hD) (λj w hj hij CY=>hdis (j+1) w (by simpa using hj) (by omega) (by rw[show k+(j+1)=k+1+j by omega];exact CY));have e:(λj=>D j ||Nat.beq j (k+1+i))=λj=>D j ||Nat.beq j (k+(i+1)):=by funext j;congr 2;omega
  rw[e]at ih;simp only[lC,ih];have hk:Nat.beq k (k+(i+1))=false:=Fj (by omega);cases hl:fM u b with
  |some x=>simp
  |none=>simp[hk]
theorem Az(t:Tr α):∀(l:Q2)(b:Nat),(kM t l).get b=if b∈l then t.get b else none
 |[],b=>by simp[kM]
 |k::l,b=>by
  rw[kM,Tr.vY,Az t l];by_cases e:b=k
  ·subst e;simp
  ·simp[e]
theorem afc:∀(l:Q2)(t:Tr α)(b:Nat),(EM t l).get b=if b∈l then none else t.get b
 |[],t,b=>by simp[EM]
 |k::l,t,b=>by
  rw[EM,afc l,Tr.vY];by_cases e:b=k
  ·subst e;simp
  ·simp[e]
end
theorem Zz{get:Nat->Nat}{j:Nat}:∀{es:List Edge},(zA get es).testBit j=true->∃e∈es,Region.binds .any e=true/\(j=e.on\/(get e.on).testBit j=true)
 |[],h=>by simp[zA]at h
 |e::es,h=>by
  rw[zA]at h;split at h
  ·next hb=>
   rw[QG,QG,nO,nO,Nat.testBit_two_pow]at h;rcases h with(h|h)|h
   ·exact⟨e,by simp,hb,.inl (Fv h).symm⟩
   ·exact⟨e,by simp,hb,.inr h⟩
   ·obtain⟨e',h1,h2,h3⟩:=Zz h;exact⟨e',by simp[h1],h2,h3⟩
  ·obtain⟨e',h1,h2,h3⟩:=Zz h;exact⟨e',by simp[h1],h2,h3⟩
theorem agJ:∀(os:List Oper)(acc:Q2),(mD os acc).length=acc.length+os.length/\(∀k,k<acc.length->(mD os acc)[k]? =acc[k]?)/\
 ∀(k:Nat) o,os[k]? =some o->(mD os acc)[acc.length+k]? =some (zA (λj=>((mD os acc).take (acc.length+k)).getD j 0) o.after.toList)
 |[],acc=>by simp[mD]
 |o::os,acc=>by
  obtain⟨h1,h2,h3⟩:=agJ os (acc++[zA (λk=>acc.getD k 0) o.after.toList]);rw[mD];simp only[fU,gQ,kT]at h1 h2 h3;refine⟨by simp only[gQ];omega,λk hk=>?_,λk o' ho=>?_⟩
  ·rw[h2 k (by omega),mP hk]
  ·cases k with
   |zero=>
    simp at ho;subst ho;rw[nC,h2 acc.length (by omega),vF (bV _)];simp only[zQ,jS];congr 2;funext j;by_cases hj:j<acc.length
    ·rw[xR,xR,kS,aj hj,h2 j (by omega),mP hj]
    ·rw[xR,xR,kS,ah hj,vG (by omega)]
   |succ k=>have:=h3 k o' (by simpa using ho);rw[show acc.length+1+k=acc.length+(k+1) by omega]at this;exact this
theorem agK:∀(M:Q2)(k:Nat),O7 M k=true->∀(j m:Nat),M[j]? =some m->m<2^(k+j)
 |[],_,_,j,m,h=>by simp at h
 |x::M,k,h,j,m,hj=>by
  simp only[O7,aK]at h;cases j with
  |zero=>simp at hj;subst hj;have h':=h.1;rw[jd]at h';simpa using h'
  |succ j=>have:=agK M (k+1) h.2 j m (by simpa using hj);rw[show k+(j+1)=k+1+j by omega];exact this
end
noncomputable section
variable[aH]
variable{P:Program}
theorem Xg{F:Env}{τ τ':aA}{w:World}(h:SR P F τ w){call:Caller}(hcall:qH P call){o:Oper}{a:bg}{A:Act}(ht:TR P F a A){r:Q4}{K:Act->World->Prop}{Q:Exit->Act->World->Prop}
 (hs:uI P call o a.eval τ=some (r,τ')) (hK:∀x F' w',St P F τ w F' τ' w'->(∀v,r=some v->VR F' v x)->K (A.put o.dst x) w'):o.wp P A w K Q:=by
 cases hc:EW o.op with
 |true=>refine adw h hcall ht hc hs λv x F' w' hr hst hv=>hK x F' w' hst λu hu=>by rw[hr]at hu;cases hu;exact hv
 |false=>
  obtain⟨nx,w',F',hrun,hst,hres⟩:=ahc h (λx v hv=>Ot h ht x v hv) hc hs;unfold Oper.wp;rw[hrun];cases r with
  |none=>subst hres;exact hK undef F' w' hst (by simp)
  |some v=>obtain⟨x,rfl,hv⟩:=hres;exact hK x F' w' hst (λu hu=>by cases hu;exact hv)
def Env.cut(F:Env)(c:Nat):Env:=⟨λid=>if id<c then F id else none,F.ro,λid=>decide (id<c)&&F.gh id⟩
theorem Env.Kw(F:Env)(c:Nat):(F.cut c).le F:=⟨λid q h=>(by
 simp only[Env.cut]at h;split at h
 ·exact h
 ·cases h),λ_ _ h=>h,λ_ h=>(aK _ _▸h:_/\_).2⟩
theorem Env.ad3{F:Env}{c id:Nat}(h:id<c)(hg:F.gh id=true):(F.cut c).gh id=true:=by simp[Env.cut,h,hg]
mutual
theorem VR.cut{F:Env}{c:Nat}:∀(a:AV)(v:Value),a.under c=true->VR F a v->VR (F.cut c) a v
 |.b _,_,_,hv=>by simpa only[VR]using hv
 |.i _ _,_,_,hv=>by simpa only[VR]using hv
 |.s _,_,_,hv=>by simpa only[VR]using hv
 |.jr,_,_,hv=>by simpa only[VR]using hv
 |.p id _,_,hu,hv=>by simp only[VR]at hv⊢;obtain⟨q,hq,e⟩:=hv;simp only[AV.under,jd]at hu;exact⟨q,by simp only[Env.cut];rw[aj hu];exact hq,e⟩
 |.fV,_,_,hv=>by simpa only[VR]using hv
 |.sl id _ _ _,_,hu,hv=>by simp only[VR]at hv⊢;obtain⟨q,hq,e⟩:=hv;simp only[AV.under,jd]at hu;exact⟨q,by simp only[Env.cut];rw[aj hu];exact hq,e⟩
 |.oU,_,_,hv=>by simpa only[VR]using hv
 |.mp id,_,hu,hv=>by simp only[VR]at hv⊢;obtain⟨q,hq,e⟩:=hv;simp only[AV.under,jd]at hu;exact⟨q,by simp only[Env.cut];rw[aj hu];exact hq,e⟩
 |.yw,_,_,hv=>by simpa only[VR]using hv
 |.fn _ fi cs,_,hu,hv=>by simp only[VR]at hv⊢;simp only[AV.under,aK]at hu;obtain⟨us,vs,e,h1,h2⟩:=hv;exact⟨us,vs,e,aC.cut fi us hu.1 h1,aC.cut cs vs hu.2 h2⟩
 |.rW,_,_,hv=>by simpa only[VR]using hv
 |.iW _ a,_,hu,hv=>by simp only[VR]at hv⊢;simp only[AV.under]at hu;obtain⟨x,e,h1⟩:=hv;exact⟨x,e,VR.cut a x hu h1⟩
 |.agg l,_,hu,hv=>by simp only[VR]at hv⊢;simp only[AV.under]at hu;obtain⟨x,e,h1⟩:=hv;exact⟨x,e,aC.cut l x hu h1⟩
 |.dP l,_,hu,hv=>by simp only[VR]at hv⊢;simp only[AV.under]at hu;obtain⟨x,e,h1⟩:=hv;exact⟨x,e,aC.cut l x hu h1⟩
 |.z _ _ _,_,_,hv=>by simpa only[VR]using hv
 |.ro l,_,hu,hv=>by
  simp only[VR]at hv⊢;simp only[AV.under]at hu;rcases hv with hv|⟨bl,off,cp,xs,sz,e,hc,h1,h2,h3⟩
  ·exact .inl hv
  right;exact⟨bl,off,cp,xs,sz,e,hc,aC.cut l xs hu h1,h2,h3⟩
 |.rp a _,_,hu,hv=>by simp only[VR]at hv⊢;simp only[AV.under]at hu;obtain⟨bl,base,cs,elem,fr,x,h1,h2,h3⟩:=hv;exact⟨bl,base,cs,elem,fr,x,h1,VR.cut a x hu h2,h3⟩
 |.nd _,_,_,hv=>by simp only[VR]at hv⊢;exact hv
 |.rx _ _,_,_,hv=>by simp only[VR]at hv⊢;exact hv
 |.sv id _,_,hu,hv=>by
  simp only[VR]at hv⊢;simp only[AV.under,jd]at hu;obtain⟨xs,h1,⟨q,hq,h2⟩|h2⟩:=hv
  ·exact⟨xs,h1,.inl ⟨q,by simp only[Env.cut];rw[aj hu];exact hq,h2⟩⟩
  ·exact⟨xs,h1,.inr ⟨Env.ad3 hu h2.1,h2.2⟩⟩
 |.pv id _ _,_,hu,hv=>by simp only[VR]at hv⊢;simp only[AV.under,jd]at hu;obtain⟨q,k,i,hq,h2⟩:=hv;exact⟨q,k,i,by simp only[Env.cut];rw[aj hu];exact hq,h2⟩
 |.pd id _,_,hu,hv=>by simp only[VR]at hv⊢;simp only[AV.under,jd]at hu;obtain⟨xs,p,h1,h2,h3⟩:=hv;exact⟨xs,p,h1,h2,λhn=>by obtain⟨q,hq,h4⟩:=h3 hn;exact⟨q,by simp only[Env.cut];rw[aj hu];exact hq,h4⟩⟩
theorem aC.cut{F:Env}{c:Nat}:∀(l:Q3)(vs:Q6),AV.oZ c l=true->aC F l vs->aC (F.cut c) l vs
 |[],_,_,hv=>by simpa only[aC]using hv
 |a::l,_,hu,hv=>by simp only[aC]at hv⊢;simp only[AV.oZ,aK]at hu;obtain⟨x,xs,e,h1,h2⟩:=hv;exact⟨x,xs,e,VR.cut a x hu.1 h1,aC.cut l xs hu.2 h2⟩
end
theorem ajm{c:Nat}:∀{l:Q3}{k:Nat}{a:AV},AV.oZ c l=true->l[k]? =some a->a.under c=true
 |[],k,a,_,h=>by simp at h
 |x::l,k,a,hu,h=>by
  simp only[AV.oZ,aK]at hu;cases k with
  |zero=>simp at h;subst h;exact hu.1
  |succ k=>exact ajm hu.2 (by simpa using h)
theorem OR.cut{F:Env}{c:Nat}{q:Place}{w:World}{o:bn}(hu:Ac c o=true)(h:OR P F q w o):OR P (F.cut c) q w o:=by
 cases o with
 |cells l et rw opn=>obtain⟨cs,elem,fr,h1,r⟩:=h;exact⟨cs,elem,fr,h1,{r with cell:=λk a hk=>by obtain⟨x,hx,hv⟩:=r.cell k a hk;exact⟨x,hx,VR.cut a x (ajm hu hk) hv⟩}⟩
 |iter s pos=>exact h
 |map es=>obtain⟨ms,clock,h1,h2,h3⟩:=h;refine⟨ms,clock,h1,h2,λk e hk=>?_⟩;obtain⟨m,hm,ha,hb⟩:=h3 k e hk;simp only[Ac,List.all_eq_true,aK]at hu;have:=hu e (rC hk);exact⟨m,hm,VR.cut _ _ this.1 ha,VR.cut _ _ this.2 hb⟩
 |iterM m=>
  cases m with
  |none=>exact h
  |some m=>obtain⟨h0,since,last,q',h1,h2⟩:=h;simp only[Ac,jd]at hu;exact⟨h0,since,last,q',by simp only[Env.cut];rw[aj hu];exact h1,h2⟩
 |smap n kk sz=>exact h
 |pmap es=>obtain⟨hn,ms,clock,ms',h1,hp,h2,h3⟩:=h;refine⟨hn,ms,clock,ms',h1,hp,h2,λk e hk=>?_⟩;obtain⟨m,hm,ha,hb⟩:=h3 k e hk;simp only[Ac,List.all_eq_true]at hu;exact⟨m,hm,ha,VR.cut _ _ (hu e (rC hk)) hb⟩
 |vec n et f=>obtain⟨xs,cs,elem,fr,ys,h1,h2,h3,h4,h5,h6,r,h8⟩:=h;exact⟨xs,cs,elem,fr,ys,h1,h2,h3,h4,h5,h6,{r with cell:=λk a hk=>by simp at hk},h8⟩
theorem St.merge{F Fi qX F':Env}{J J' τ τ':aA}{w w':World}{upd:WF}(hS:SR P F J w)(TJ:SR P Fi τ w)(hst:St P Fi τ w qX τ' w')(sub:∀id o,τ.get id=some o->J.get id=some o)(hi:Fi.le F)(hro:Fi.ro=F.ro)(TU:F'.ro=qX.ro)
 (h1:F.le F') (h2:qX.le F') (hg:∀b,J'.get b=(fM upd b).getD (J.get b))
 (hu:∀b o,fM upd b=some (some o)->τ'.get b=some o/\((∃o0,τ.get b=some o0/\o0.own=true)\/(o.own=true/\τ.get b=none)))
 (MW:∀id o,τ.get id=some o->o.own=true->τ.lock<=id->fM upd id≠none) (hlk:J.lock<=τ.lock) (C9:∀b,fM upd b≠none->τ.lock<=b)
 (hnx:∀id q,F' id=some q->id<J'.next) (hgh:∀id,F'.gh id=true->F' id=none/\id<J'.next):
 SR P F' J' w'/\w.heap.size<=w'.heap.size/\
 (∀bl,bl<w.heap.size->(∀id o q,J.get id=some o->o.own=true->J.lock<=id->F id=some q->q.bl≠bl)->w'.heap[bl]? =w.heap[bl]?)/\
 (∀id o q,J'.get id=some o->o.own=true->J.lock<=id->F' id=some q->w.heap.size<=q.bl\/∃dJ o0 q0,J.get dJ=some o0/\o0.own=true/\J.lock<=dJ/\F dJ=some q0/\q0.bl=q.bl)/\
 (∀b,F'.ro b≠none->F.ro b≠none\/w.heap.size<=b\/∃dJ o0 q0,J.get dJ=some o0/\o0.own=true/\J.lock<=dJ/\F dJ=some q0/\q0.bl=b):=by
 have stays:∀b o q,fM upd b=none->J.get b=some o->F b=some q->q.bl<w.heap.size->w'.heap[q.bl]? =w.heap[q.bl]?:=by intro b o q hb ho hq hlt;refine hst.keep _ hlt ?_;intro id o2 q2 a1 a2 a3 a4;have hne:id≠b:=λe=>MW id o2 a1 a2 a3 (by rw[e];exact hb);exact hS.sep id o2 b o q2 q (sub _ _ a1) a2 ho hne (hi.pl _ _ a4) hq
 have place:∀b o q,fM upd b=some (some o)->F' b=some q->OR P F' q w' o/\qX b=some q:=by
  intro b o q hb hq';rcases hst.rel.live b o (hu b o hb).1 with⟨p,hp,hr⟩|⟨hgb,_⟩
  ·have:=h2.pl _ _ hp;rw[hq']at this;cases this;exact⟨hr.mono h2,hp⟩
  ·rw[(hgh b (h2.gh b hgb)).1]at hq';cases hq'
 have old:∀id o q,J.get id=some o->F' id=some q->F id=some q/\OR P F q w o:=by
  intro id o q ho hq';rcases hS.live id o ho with⟨p,hp,hr⟩|⟨hgb,_⟩
  ·have:=h1.pl _ _ hp;rw[hq']at this;cases this;exact⟨hp,hr⟩
  ·rw[(hgh id (h1.gh id hgb)).1]at hq';cases hq'
 have abL:∀b o q,fM upd b=some (some o)->qX b=some q->(w.heap.size<=q.bl)\/(∃dJ o0 q0,τ.get dJ=some o0/\o0.own=true/\τ.lock<=dJ/\Fi dJ=some q0/\q0.bl=q.bl):=by
  intro b o q hb hq;obtain⟨h4,h5⟩:=hu b o hb;rcases h5 with⟨o0,h6,h7⟩|⟨h6,h7⟩
  ·rcases TJ.live b o0 h6 with⟨p',hp',_⟩|⟨hgb,_⟩
   ·have:=hst.ext.pl _ _ hp';rw[hq]at this;cases this;exact .inr ⟨b,o0,q,h6,h7,C9 b (by rw[hb];simp),hp',rfl⟩
   ·rw[(hst.rel.jH b (hst.ext.gh b hgb)).1]at hq;cases hq
  ·rcases hst.own b o q h4 h6 (C9 b (by rw[hb];simp)) hq with h8|h8
   ·exact .inl h8
   ·exact .inr h8
 have Ob:∀id o,J'.get id=some o->(fM upd id=some (some o))\/(fM upd id=none/\J.get id=some o):=by
  intro id o ho;rw[hg]at ho;cases hl:fM upd id with
  |none=>rw[hl]at ho;exact .inr ⟨rfl,ho⟩
  |some x=>rw[hl]at ho;simp only[qN]at ho;subst ho;exact .inl rfl
 refine⟨⟨?_,hnx,?_,hgh,?_,λb o hb=>hst.rel.iT b o (by rw[<-TU];exact hb),?_,λp hp=>(hS.tabs p hp).mono h1⟩,hst.size,?_,?_,?_⟩
 ·intro g hgg;obtain⟨sz,es,h5⟩:=hS.mg g hgg;exact⟨sz,es,h1.pl _ _ h5⟩
 ·intro id o ho;rcases Ob id o ho with h4|⟨h4,h5⟩
  ·exact(hst.rel.live id o (hu id o h4).1).mono h2
  ·exact((hS.live id o h5).heap (w:=w) λq hq hr=>stays id o q h4 h5 hq hr.lt).mono h1
 ·intro id o id' o' q q' a1 a2 a3 a4 a5 a6;rcases Ob id o a1 with b1|⟨b1,b1'⟩<;>rcases Ob id' o' a3 with b2|⟨b2,b2'⟩
  ·obtain⟨_,c2⟩:=place id o q b1 a5;obtain⟨_,c4⟩:=place id' o' q' b2 a6;exact hst.rel.sep id o id' o' _ _ (hu _ _ b1).1 a2 (hu _ _ b2).1 a4 c2 c4
  ·obtain⟨_,c2⟩:=place id o q b1 a5;obtain⟨d1,d2⟩:=old id' o' q' b2' a6;rcases abL id o q b1 c2 with e|⟨dJ,o0,q0,e1,e2,e3,e4,e5⟩
   ·have:=d2.lt;omega
   ·rw[<-e5];exact hS.sep dJ o0 id' o' q0 q' (sub _ _ e1) e2 b2' (λe=>MW dJ o0 e1 e2 e3 (by rw[e];exact b2)) (hi.pl _ _ e4) d1
  ·obtain⟨_,c4⟩:=place id' o' q' b2 a6;obtain⟨d1,d2⟩:=old id o q b1' a5;rcases abL id' o' q' b2 c4 with e|⟨dJ,o0,q0,e1,e2,e3,e4,e5⟩
   ·have:=d2.lt;omega
   ·rw[<-e5];exact hS.sep id o dJ o0 q q0 b1' a2 (sub _ _ e1) (λe=>MW dJ o0 e1 e2 e3 (by rw[<-e];exact b1)) d1 (hi.pl _ _ e4)
  ·exact hS.sep id o id' o' _ _ b1' a2 b2' a4 (old id o q b1' a5).1 (old id' o' q' b2' a6).1
 ·intro id o q a1 a2 a3;rcases Ob id o a1 with b1|⟨b1,b1'⟩
  ·obtain⟨_,c2⟩:=place id o q b1 a3;rw[TU];exact hst.rel.kN id o q (hu _ _ b1).1 a2 c2
  ·obtain⟨d1,d2⟩:=old id o q b1' a3;cases hr:F'.ro q.bl with
   |none=>rfl
   |some o2=>
    exfalso;rcases hst.qg q.bl (by rw[<-TU,hr];simp)with e|e|⟨dJ,o0,q0,e1,e2,e3,e4,e5⟩
    ·rw[hro,hS.kN id o q b1' a2 d1]at e;exact e rfl
    ·have:=d2.lt;omega
    ·exact hS.sep dJ o0 id o q0 q (sub _ _ e1) e2 b1' (λe=>MW dJ o0 e1 e2 e3 (by rw[e];exact b1)) (hi.pl _ _ e4) d1 e5
 ·intro bl hbl hno;exact hst.keep bl hbl λid o q a1 a2 a3 a4=>hno id o q (sub _ _ a1) a2 (jD hlk a3) (hi.pl _ _ a4)
 ·intro id o q a1 a2 a3 a4;rcases Ob id o a1 with b1|⟨b1,b1'⟩
  ·obtain⟨_,c2⟩:=place id o q b1 a4;rcases abL id o q b1 c2 with e|⟨dJ,o0,q0,e1,e2,e3,e4,e5⟩
   ·exact .inl e
   ·exact .inr ⟨dJ,o0,q0,sub _ _ e1,e2,jD hlk e3,hi.pl _ _ e4,e5⟩
  ·obtain⟨d1,_⟩:=old id o q b1' a4;exact .inr ⟨id,o,q,b1',a2,a3,d1,rfl⟩
 ·intro b hb;rcases hst.qg b (by rw[<-TU];exact hb)with e|e|⟨dJ,o0,q0,e1,e2,e3,e4,e5⟩
  ·rw[hro]at e;exact .inl e
  ·exact .inr (.inl e)
  ·exact .inr (.inr ⟨dJ,o0,q0,sub _ _ e1,e2,jD hlk e3,hi.pl _ _ e4,e5⟩)
theorem St.then{F0 F F':Env}{J0 J J':aA}{w0 w w':World}(h:St P F0 J0 w0 F J w)(hle:F.le F')(rel:SR P F' J' w')(size:w.heap.size<=w'.heap.size)
 (keep:∀bl,bl<w.heap.size->(∀id o q,J.get id=some o->o.own=true->J.lock<=id->F id=some q->q.bl≠bl)->w'.heap[bl]? =w.heap[bl]?)
 (own:∀id o q,J'.get id=some o->o.own=true->J.lock<=id->F' id=some q->w.heap.size<=q.bl\/∃dJ o0 q0,J.get dJ=some o0/\o0.own=true/\J.lock<=dJ/\F dJ=some q0/\q0.bl=q.bl)
 (os:w'.os=w.os) (tape:w'.tape=w.tape) (output:w'.output=w.output) (lock:J'.lock=J.lock) (next:J.next<=J'.next)
 (new:∀id,F'.has id->F.has id\/(J0.next<=id/\id<J'.next))
 (qg:∀b,F'.ro b≠none->F.ro b≠none\/w.heap.size<=b\/∃dJ o0 q0,J.get dJ=some o0/\o0.own=true/\J.lock<=dJ/\F dJ=some q0/\q0.bl=b):St P F0 J0 w0 F' J' w':=by
 refine⟨h.ext.trans hle,rel,jD h.size size,?_,?_,os.trans h.os,tape.trans h.tape,output.trans h.output,lock.trans h.lock,jD h.next next,?_,?_⟩
 ·intro bl hbl hno;rw[keep bl (wZ hbl h.size) ?_,h.keep bl hbl hno];intro id o q h1 h2 h3 h4;rcases h.own id o q h1 h2 (h.lock▸h3) h4 with h5|⟨dJ,o0,q0,a,b,c,d,e⟩
  ·omega
  ·rw[<-e];exact hno dJ o0 q0 a b c d
 ·intro id o q h1 h2 h3 h4;rcases own id o q h1 h2 (by rw[h.lock];exact h3) h4 with h5|⟨dJ,o0,q0,a,b,c,d,e⟩
  ·exact .inl (jD h.size h5)
  ·rcases h.own dJ o0 q0 a b (h.lock▸c) d with h6|⟨id1,o1,q1,a1,b1,c1,d1,e1⟩
   ·left;omega
   ·exact .inr ⟨id1,o1,q1,a1,b1,c1,d1,e1.trans e⟩
 ·intro id hq;rcases new id hq with h1|h1
  ·rcases h.new id h1 with h3|⟨h3,h4⟩
   ·exact .inl h3
   ·exact .inr ⟨h3,wZ h4 next⟩
  ·exact .inr h1
 ·intro b hb;rcases qg b hb with h1|h1|⟨dJ,o0,q0,a1,b1,c1,d1,e1⟩
  ·exact h.qg b h1
  ·exact .inr (.inl (jD h.size h1))
  ·rcases h.own dJ o0 q0 a1 b1 (h.lock▸c1) d1 with h2|⟨id2,o2,q2,a2,b2,c2,d2,e2⟩
   ·right;left;omega
   ·exact .inr (.inr ⟨id2,o2,q2,a2,b2,c2,d2,e2.trans e1⟩)
def kD(rs:We):List (List (Nat×Q4)):=rs.map (·.slot)
def gV(rs:We):List WF:=rs.map (·.upd)
def jo:Nat->List dA->Nat->Nat
 |c,_,0=>c
 |c,[],_=>c
 |_,r::rs,k+1=>jo r.next rs k
theorem ad4{call:Caller}{ops:W3}{M:Q2}{N0 lock gn n:Nat}:∀(m:Nat)(prev:We)(i:Nat)(t:Tr AV)(h:Tr bn)(c:Nat)(rs:We)(t':Tr AV)(h':Tr bn)(c':Nat),
 Oi P call ops M N0 lock gn n m prev i t h c=some (rs,t',h',c')->∃new,rs=prev++new/\new.length=m/\t'=jf (kD new) t/\h'=jf (gV new) h/\c'=jo c new m/\
  ∀(k:Nat) r,new[k]? =some r->xB P call ops M N0 lock gn n (prev++new.take k) (i+k) (jf ((kD new).take k) t) (jf ((gV new).take k) h) (jo c new k)=some r
 |0,prev,i,t,h,c,rs,t',h',c',hs=>by simp only[Oi,aW,nR]at hs;obtain⟨rfl,rfl,rfl,rfl⟩:=hs;exact⟨[],by simp,rfl,rfl,rfl,rfl,by simp⟩
 |m+1,prev,i,t,h,c,rs,t',h',c',hs=>by
  unfold Oi at hs;split at hs
  ·cases hs
  ·next r hr=>
   obtain⟨new,h1,h2,h3,h4,h5,h6⟩:=ad4 m _ _ _ _ _ _ _ _ _ hs;refine⟨r::new,by rw[h1];simp,by simp[h2],?_,?_,?_,?_⟩
   ·rw[h3];rfl
   ·rw[h4];rfl
   ·rw[h5];rfl
   ·intro k s hk;cases k with
    |zero=>simp at hk;subst hk;simpa[jf,kD,gV,jo]using hr
    |succ k=>have:=h6 k s (by simpa using hk);rw[show i+1+k=i+(k+1) by omega]at this;simp only[List.append_assoc,Nu]at this;simpa[kD,gV,jf,jo]using this
theorem aoY{call:Caller}{ops:W3}{M:Q2}{N0 lock gn n i c:Nat}{prev:We}{t:Tr AV}{h:Tr bn}{r:dA}(hs:Aj P call ops M N0 lock gn n prev i t h c=some r):r.base=c:=by
 unfold Aj at hs;split at hs
 ·cases hs
 ·simp only at hs;split at hs
  ·cases hs
  ·cases hs;rfl
  ·split at hs
   ·split at hs
    ·cases hs;rfl
    ·cases hs
   ·split at hs
    ·split at hs
     ·split at hs
      ·cases hs;rfl
      ·cases hs
     ·cases hs
    ·split at hs
     ·split at hs
      ·cases hs;rfl
      ·cases hs
     ·cases hs
    ·split at hs
     ·split at hs
      ·cases hs;rfl
      ·cases hs
     ·cases hs
    ·split at hs
     ·cases hs;rfl
     ·split at hs
      ·split at hs
       ·cases hs;rfl
       ·cases hs
      ·cases hs
theorem aoZ{call:Caller}{ops:W3}{M:Q2}{N0 lock gn n i c:Nat}{prev:We}{t:Tr AV}{h:Tr bn}{r:dA}(hs:Aj P call ops M N0 lock gn n prev i t h c=some r):∃o v,ops[i]? =some o/\r.slot=qA o v:=by
 unfold Aj at hs;split at hs
 ·cases hs
 ·next o ho=>
  simp only at hs;split at hs
  ·cases hs
  ·cases hs;exact⟨o,_,ho,rfl⟩
  ·split at hs
   ·split at hs
    ·cases hs;exact⟨o,_,ho,rfl⟩
    ·cases hs
   ·split at hs
    ·split at hs
     ·split at hs
      ·cases hs;exact⟨o,_,ho,rfl⟩
      ·cases hs
     ·cases hs
    ·split at hs
     ·split at hs
      ·cases hs;exact⟨o,_,ho,rfl⟩
      ·cases hs
     ·cases hs
    ·split at hs
     ·split at hs
      ·cases hs;exact⟨o,_,ho,rfl⟩
      ·cases hs
     ·cases hs
    ·split at hs
     ·cases hs;exact⟨o,_,ho,rfl⟩
     ·split at hs
      ·split at hs
       ·cases hs;exact⟨o,_,ho,rfl⟩
       ·cases hs
      ·cases hs
theorem ao1{call:Caller}{ops:W3}{M:Q2}{N0 lock gn n i c:Nat}{prev:We}{t:Tr AV}{h:Tr bn}{r:dA}(hs:Aj P call ops M N0 lock gn n prev i t h c=some r):r.fin=none:=by
 unfold Aj at hs;split at hs
 ·cases hs
 ·simp only at hs;split at hs
  ·cases hs
  ·cases hs;rfl
  ·split at hs
   ·split at hs
    ·cases hs;rfl
    ·cases hs
   ·split at hs
    ·split at hs
     ·split at hs
      ·cases hs;rfl
      ·cases hs
     ·cases hs
    ·split at hs
     ·split at hs
      ·cases hs;rfl
      ·cases hs
     ·cases hs
    ·split at hs
     ·split at hs
      ·cases hs;rfl
      ·cases hs
     ·cases hs
    ·split at hs
     ·cases hs;rfl
     ·split at hs
      ·split at hs
       ·cases hs;rfl
       ·cases hs
      ·cases hs
theorem ao0{call:Caller}{ops:W3}{M:Q2}{N0 lock gn n i c:Nat}{prev:We}{t:Tr AV}{h:Tr bn}{r:dA}(hs:xB P call ops M N0 lock gn n prev i t h c=some r):r.base=c:=by
 unfold xB at hs;split at hs
 ·unfold Ky at hs;split at hs
  ·cases hs
  ·split at hs
   ·cases hs
   ·cases hs;rfl
   ·split at hs
    ·cases hs;rfl
    ·cases hs
 ·exact aoY hs
theorem ao2{call:Caller}{ops:W3}{M:Q2}{N0 lock gn n i c:Nat}{prev:We}{t:Tr AV}{h:Tr bn}{r:dA}(hs:xB P call ops M N0 lock gn n prev i t h c=some r):∃o v,ops[i]? =some o/\r.slot=qA o v:=by
 unfold xB at hs;split at hs
 ·unfold Ky at hs;split at hs
  ·cases hs
  ·next o ho=>
   split at hs
   ·cases hs
   ·cases hs;exact⟨o,_,ho,rfl⟩
   ·split at hs
    ·cases hs;exact⟨o,_,ho,rfl⟩
    ·cases hs
 ·exact aoZ hs
structure qI(ops:W3)(M:Q2)(rs:We)(n N0:Nat):Prop where
 hM:M=mD ops.toList []
 mok:O7 M 0=true
 len:rs.length=ops.size
 pairs:∀(i j:Nat) r s,rs[i]? =some r->rs[j]? =some s->xO M i j=true->Py ops N0 i j r s=true
 slot:∀(i:Nat) r,rs[i]? =some r->r.base<=r.next/\∀p∈r.slot,p.1<n
structure Ctx(P:Program)(call:Caller)(ops:W3)(M:Q2)(rs:We)(a0:bg)(J0:aA)(cf:Nat):Prop extends qI ops M rs a0.n J0.next where
 one:∀(i:Nat) r,rs[i]? =some r->xB P call ops M J0.next J0.lock a0.gn a0.n (rs.take i) i (jf ((kD rs).take i) a0.t) (jf ((gV rs).take i) J0.h) (jo (J0.next+ops.size) rs i)=some r
 fin:cf=jo (J0.next+ops.size) rs ops.size
 big:cf<=sU
 lock:J0.lock<=J0.next
section
variable{call:Caller}{ops:W3}{M:Q2}{rs:We}{a0:bg}{J0:aA}{cf nn N0:Nat}
theorem N9:∀(rs:We)(c k:Nat)(r:dA),rs[k]? =some r->jo c rs (k+1)=r.next
 |[],c,k,r,h=>by simp at h
 |s::rs,c,0,r,h=>by simp at h;subst h;cases rs<;>rfl
 |s::rs,c,k+1,r,h=>by
  show jo s.next rs (k+1)=r.next
  exact N9 rs s.next k r (by simpa using h)
theorem Ctx.base(C:Ctx P call ops M rs a0 J0 cf){i:Nat}{r:dA}(h:rs[i]? =some r):r.base=jo (J0.next+ops.size) rs i:=ao0 (C.one i r h)
theorem Ctx.mono(C:Ctx P call ops M rs a0 J0 cf):∀(k i:Nat),i+k<=rs.length->jo (J0.next+ops.size) rs i<=jo (J0.next+ops.size) rs (i+k)
 |0,i,_=>bV _
 |k+1,i,h=>by
  have ih:=C.mono k i (by omega);have hlt:i+k<rs.length:=by omega
  have hr:rs[i+k]? =some rs[i+k]:=bK hlt;have:=(C.slot _ _ hr).1;rw[C.base hr]at this;rw[show i+(k+1)=(i+k)+1 by omega,N9 rs _ _ _ hr];omega
theorem Ctx.lt(C:Ctx P call ops M rs a0 J0 cf){i j:Nat}{r s:dA}(hi:rs[i]? =some r)(hj:rs[j]? =some s)(h:i<j):r.next<=s.base:=by have hjl:=(eU.1 hj).1;have:=C.mono (j-(i+1)) (i+1) (by omega);rw[N9 rs _ _ _ hi,show i+1+(j-(i+1))=j by omega]at this;rw[C.base hj];exact this
theorem Ctx.lo(C:Ctx P call ops M rs a0 J0 cf){i:Nat}{r:dA}(hi:rs[i]? =some r):J0.next+ops.size<=r.base:=by have:=C.mono i 0 (by have:=(eU.1 hi).1;omega);rw[C.base hi];simpa[jo]using this
theorem Ctx.hi(C:Ctx P call ops M rs a0 J0 cf){i:Nat}{r:dA}(hi:rs[i]? =some r):r.next<=cf:=by have hil:=(eU.1 hi).1;have:=C.mono (ops.size-(i+1)) (i+1) (by have:=C.len;omega);rw[N9 rs _ _ _ hi,show i+1+(ops.size-(i+1))=ops.size by have:=C.len;omega]at this;rw[C.fin];exact this
theorem Ctx.XK(C:Ctx P call ops M rs a0 J0 cf):J0.next+ops.size<=cf:=by have:=C.mono ops.size 0 (by have:=C.len;omega);rw[C.fin];simpa[jo]using this
theorem qI.mask(C:qI ops M rs nn N0){i:Nat}{o:Oper}(ho:ops[i]? =some o):M[i]? =some (zA (λj=>(M.take i).getD j 0) o.after.toList)/\M.length=ops.size:=by obtain⟨h1,_,h3⟩:=agJ ops.toList [];have:=h3 i o (by simpa using ho);simp only[kT,kH]at this h1;rw[C.hM];exact⟨this,by simpa using h1⟩
def Closed(ops:W3)(D:Nat->Bool):Prop:=∀i o,D i=true->ops[i]? =some o->∀e∈o.after.toList,Region.binds .any e=true->D e.on=true
theorem qI.qO(C:qI ops M rs nn N0){D:Nat->Bool}(hD:Closed ops D):∀(i:Nat)(o:Oper),ops[i]? =some o->(∀e∈o.after.toList,Region.binds .any e=true->D e.on=true)->∀j,uf M j i=true->D j=true:=by
 intro i;induction i using Nat.strongRecOn with
 |_ i ih=>
  intro o ho gW j hj;obtain⟨hm,hl⟩:=C.mask ho;unfold uf at hj;rw[xR,hm]at hj;obtain⟨e,he,hb,h1⟩:=Zz hj;have hDe:=gW e he hb;rcases h1 with rfl|h1
  ·exact hDe
  ·rw[xR,kS]at h1;split at h1
   ·next hlt=>
    by_cases hin:e.on<ops.size
    ·have hoe:ops[e.on]? =some ops[e.on]:=by simp[hin]
     refine ih e.on hlt ops[e.on] hoe (λe' he' hb'=>hD e.on _ hDe hoe e' he' hb') j ?_;unfold uf;rw[xR];exact h1
    ·rw[vG (by omega)]at h1;simp at h1
   ·simp at h1
theorem qI.ZQ(C:qI ops M rs nn N0){i j:Nat}(h:uf M j i=true):j<i:=by
 unfold uf at h;rw[xR]at h;cases hm:M[i]? with
 |none=>rw[hm]at h;simp at h
 |some m=>rw[hm]at h;have hlt:=agK M 0 C.mok i m hm;simp only[kH,qN]at hlt h;exact Nat.lt_of_not_le λhle=>by have:=Nat.testBit_lt_two_pow (wZ hlt (QF (by omega) hle));rw[this]at h;cases h
theorem qI.open_(C:qI ops M rs nn N0){D:Nat->Bool}(hD:Closed ops D){i j:Nat}{o:Oper}(ho:ops[i]? =some o)(hi:D i=false)(gW:∀e∈o.after.toList,Region.binds .any e=true->D e.on=true)
 (hj:j<ops.size) (hne:D j≠decide (j<i)):xO M i j=true:=by
 have hij:i≠j:=by rintro rfl;rw[hi]at hne;simp at hne
 have h1:uf M j i=false:=by
  cases h:uf M j i with
  |false=>rfl
  |true=>have h2:=C.qO hD i o ho gW j h;have h3:=C.ZQ h;rw[h2]at hne;simp[h3]at hne
 have h2:uf M i j=false:=by
  cases h:uf M i j with
  |false=>rfl
  |true=>
   have h3:=C.ZQ h;have h4:D j=true:=by
    cases CY:D j with
    |true=>rfl
    |false=>rw[CY]at hne;simp at hne;omega
   have hoj:ops[j]? =some ops[j]:=by simp[hj]
   have:=C.qO hD j _ hoj (λe he hb=>hD j _ h4 hoj e he hb) i h;rw[this]at hi;cases hi
 unfold xO;rw[Fj hij,h1,h2];rfl
theorem Oo{l m:Q2}(h:pG l m=true){b:Nat}(hb:b∈l):b∉m:=by unfold pG at h;rw[List.all_eq_true]at h;have:=h b hb;simpa using this
