/- Regions whose order Go leaves open: the evaluator goes by the text, and looks whether another order could make a difference. -/
import Derived.Test.YthchhlenbkefnaaGreatDoorAbsE
set_option linter.all false
namespace Go.aN
noncomputable section
variable[gY]
def Bh(get:Nat->Nat):List Edge->Nat
 |[]=>0
 |e::es=>if Region.binds .any e then(2^e.on |||get e.on) |||Bh get es else Bh get es
def nU:List Oper->List Nat->List Nat
 |[],a=>a
 |o::os,a=>nU os (a++[Bh (λk=>a.getD k 0) o.after.toList])
def vY(M:Q2)(j i:Nat):Bool:=(M.getD i 0).testBit j
def zx(M:Q2)(i j:Nat):Bool:=!(Nat.beq i j)&&!(vY M j i)&&!(vY M i j)
def QT:Q2->Nat->Bool
 |[],_=>true
 |m::a,i=>Nat.blt m (2^i)&&QT a (i+1)
def F5{α:Type}:List (Nat×Option α)->Tr α->Tr α
 |[],t=>t
 |(k,v)::l,t=>F5 l (t.set k v)
def lU{α:Type}(t:Tr α):Q2->Tr α
 |[]=>.nil
 |k::l=>(lU t l).set k (t.get k)
def Gw{α:Type}(t:Tr α):Q2->Tr α
 |[]=>t
 |k::l=>Gw (t.set k none) l
mutual
def AV.under(c:Nat):AV->Bool
 |.p id _=>Nat.blt id c
 |.sl id _ _ _=>Nat.blt id c
 |.mp id=>Nat.blt id c
 |.fn _ fi cs=>AV.qO c fi&&AV.qO c cs
 |.jq _ a=>a.under c
 |.agg l=>AV.qO c l
 |.fB l=>AV.qO c l
 |.ro l=>AV.qO c l
 |.rp a _=>a.under c
 |.sv id _=>Nat.blt id c
 |.pv id _ _=>Nat.blt id c
 |.pd id _=>Nat.blt id c
 |_=>true
def AV.qO(c:Nat):Q3->Bool
 |[]=>true
 |a::l=>a.under c&&AV.qO c l
end
def Cc(c:Nat):bI->Bool
 |.cells l _ _ _=>AV.qO c l
 |.iter _ _=>true
 |.map es=>es.all λe=>e.1.under c&&e.2.under c
 |.iterM (some m)=>Nat.blt m c
 |.iterM none=>true
 |.vec _ _ _=>true
 |.smap _ _ _=>true
 |.pmap es=>es.all λe=>e.2.under c
def Pv(c:Nat)(h:Tr bI):Q2->Bool
 |[]=>true
 |k::l=>Nat.blt k c&&(match h.get k with|some o=>Cc c o|none=>true)&&Pv c h l
def Mc(c:Nat)(t:Tr AV):Q2->Bool
 |[]=>true
 |k::l=>(match t.get k with|some v=>v.under c|none=>true)&&Mc c t l
structure dM where
 slot:List (Nat×Q4)
 upd:WP
 vis:Option Q2
 loc:Q2
 base:Nat
 next:Nat
 fin:Option aA:=none
abbrev Wk:=List dM
inductive Cls where
 |na (vis:Q2)
 |wr (w:Q2)
 |sa (w:Q2)
 |ca
def awc:AV->List Nat
 |.p id _=>[id]
 |.sl id _ _ _=>[id]
 |.mp id=>[id]
 |.sv id _=>[id]
 |.pv id _ _=>[id]
 |.pd id _=>[id]
 |_=>[]
def y7(b:QP)(x:Operand):Q2:=match b x with|some a=>awc a|none=>[]
def afI(o:Oper)(b:QP):Cls:=
 match o.op with
 |.load _ a=>.na (y7 b a)
 |.indexAddr _ x _=>.na (y7 b x)
 |.store _ a _=>.wr (y7 b a)
 |.box .. |.buildSlice .. |.makeSlice .. |.makeMap ..=>.sa []
 |.convert _ _ x=>.sa (y7 b x)
 |.slice _ x _ _ _=>.na (y7 b x)
 |.lookup _ m _ _=>.na (y7 b m)
 |.mapUpdate _ m _ _|.insert _ m _ _=>.wr (y7 b m)
 |.range _ x=>.sa (y7 b x)
 |.next d _=>.wr (y7 b d)
 |.call c=>match c.callee with
  |.builtin .len=>.na (c.args.toList.flatMap (y7 b))
  |.builtin .append|.builtin .copy|.builtin .clear=>.sa (c.args.toList.flatMap (y7 b))
  |.builtin .unsafeSliceData=>.na (c.args.toList.flatMap (y7 b))
  |.builtin .unsafeString=>.wr (c.args.toList.flatMap (y7 b))
  |.builtin _=>.na []
  |_=>.ca
 |_=>.na []
def vH:Nat:=2^64
def su(o:Oper)(v:Q4):List (Nat×Q4):=match o.dst with|some d=>[(d,v)]|none=>[]
def GK(τ:aA):Nat->Nat->List (Nat×Option bI)
 |_,0=>[]
 |c,n+1=>(c,match τ.get c with|some o=>if o.own then some o else none|none=>none)::GK τ (c+1) n
def keysOf{α:Type}(l:List (Nat×Option α)):Q2:=l.map (·.1)
def EN(M:Q2)(i:Nat):Wk->Nat->List Nat
 |[],_=>[]
 |r::rs,j=>if zx M i j then keysOf r.upd++EN M i rs (j+1)else EN M i rs (j+1)
def QN(M:Q2)(i:Nat):Wk->Nat->List Nat
 |[],_=>[]
 |r::rs,j=>if zx M i j then QN M i rs (j+1)else keysOf r.upd++QN M i rs (j+1)
def Ku(h:Tr bI)(a:Nat)(l:Q2):Q2:=l.filter λk=>Nat.ble a k&&(match h.get k with|some o=>o.own|none=>false)
mutual
def L8:AV->List Nat
 |.p id _|.sl id _ _ _|.mp id|.sv id _|.pv id _ _|.pd id _=>[id]
 |.fn _ fs cs=>L9 fs++L9 cs
 |.jq _ v=>L8 v
 |.agg l=>L9 l
 |.fB l=>L9 l
 |_=>[]
def L9:Q3->List Nat
 |[]=>[]
 |a::l=>L8 a++L9 l
end
def ayh:bI->List Nat
 |.cells l _ _ _=>L9 l
 |.map es=>es.flatMap λe=>L8 e.1++L8 e.2
 |.pmap es=>es.flatMap λe=>L8 e.2
 |.iterM (some m)=>[m]
 |_=>[]
def acK(h:Tr bI):Nat->List Nat->List Nat->List Nat
 |0,_,seen=>seen
 |_+1,[],seen=>seen
 |f+1,k::a,seen=>bif seen.contains k then acK h f a seen else acK h f ((match h.get k with|some o=>ayh o|none=>[])++a) (k::seen)
def Ru(o:Oper)(a:QP)(h:Tr bI):Q2:=
 acK h 1000 (o.op.operands.toList.flatMap λx=>match a x with|some v=>L8 v|none=>[]) []
def axr(ops:W5)(j:Nat):Bool:=match ops[j]? with
 |some o=>match o.op with
  |.buildSlice .. |.makeSlice .. |.makeMap ..=>true
  |_=>false
 |none=>false
def awK(ops:W5)(M:Q2)(i:Nat):Bool:=(List.range ops.size).any λj=>Nat.blt i j&&axr ops j&&zx M i j
def al6{α:Type}(b:Bool)(x:Unit->Option α):Option α:=bif b then none else x ()
def aFi{α:Type}{b:Bool}{x:Unit->Option α}{y:α}(h:al6 b x=some y):x ()=some y:=by
 cases b with
 |true=>cases h
 |false=>exact h
def CJ(P:Program)(call:Caller)(ops:W5)(M:Q2)(N0 lock gn n:Nat)(b:Wk)(i:Nat)(t:Tr AV)(h:Tr bI)(c:Nat):Option dM:=
 match ops[i]? with
 |none=>none
 |some o=>
  let a:bG:={t:=lU t (o.looksAt ops),n:=n,gn:=gn}
  match KZ o ops a with
  |none=>none
  |some false=>some {slot:=su o (some (.fB [])),upd:=[],vis:=some [],loc:=[],base:=c,next:=c}
  |some true=>
   match o.op with
   |.alloc d=>match Ae P d with
    |some z=>some {slot:=su o (some (.p (N0+i) 0)),upd:=[(N0+i,some (.cells z d true false))],vis:=some [],loc:=[],base:=c,next:=c}
    |none=>none
   |_=>
    match afI o a.eval with
    |.na l=>
     match AY P call o a.eval {h:=lU h l,next:=vH,lock:=vH}with
     |some (v,τ)=>if Nat.beq τ.next vH then some {slot:=su o v,upd:=[],vis:=some l,loc:=[],base:=c,next:=c}else none
     |none=>none
    |.wr l=>
     match AY P call o a.eval {h:=lU h l,next:=vH,lock:=lock}with
     |some (v,τ)=>if Nat.beq τ.next vH then some {slot:=su o v,upd:=(Ku h lock l).map λk=>(k,τ.get k),vis:=some l,loc:=[],base:=c,next:=c}else none
     |none=>none
    |.sa l=>
     if Mc c t (o.looksAt ops)&&Pv c h l then
      match AY P call o a.eval {h:=lU h l,next:=c,lock:=lock}with
      |some (v,τ)=>some {slot:=su o v,upd:=((Ku h lock l).map λk=>(k,τ.get k))++GK τ c (τ.next-c),vis:=some l,loc:=[],base:=c,next:=τ.next}
      |none=>none
     else none
    |.ca=>
     match al6 (awK ops M i) (λ_=>AY P call o a.eval {h:=Gw h (EN M i b 0),next:=c,lock:=c})with
     |some (v,τ)=>some {slot:=su o v,upd:=GK τ c (τ.next-c),vis:=none,loc:=QN M i b 0,base:=c,next:=τ.next}
     |none=>
      if Mc c t (o.looksAt ops)&&Pv c h (Ru o a.eval h)then
       match AY P call o a.eval {h:=lU h (Ru o a.eval h),next:=c,lock:=lock}with
       |some (v,τ)=>some {slot:=su o v,upd:=((Ku h lock (Ru o a.eval h)).map λk=>(k,τ.get k))++GK τ c (τ.next-c),vis:=some (Ru o a.eval h),loc:=[],base:=c,next:=τ.next}
       |none=>none
      else none
def Em(o:Oper):Bool:=match o.op with
 |.move _|.assign _|.binOp .. |.extract ..=>true
 |_=>false
def oN(ops:W5)(i:Nat):Bool:=match ops[i]? with|some o=>Em o|none=>false
def XZ(ops:W5)(M:Q2):Nat->Nat
 |0=>0
 |k+1=>if(oN ops k ||(List.range k).all λj=>oN ops j ||vY M j k)=true then XZ ops M k else k+1
def oQ(ops:W5)(M:Q2)(i:Nat):Bool:=Nat.ble (XZ ops M ops.size) i&&!(oN ops i)
def xE:Wk->aA->aA
 |[],J=>J
 |r::rs,J=>xE rs (match r.fin with|some τ=>τ|none=>J)
def MK(P:Program)(call:Caller)(ops:W5)(lock gn n:Nat)(a:Wk)(i:Nat)(t:Tr AV)(h:Tr bI)(c:Nat):Option dM:=
 match ops[i]? with
 |none=>none
 |some o=>
  match KZ o ops {t:=lU t (o.looksAt ops),n:=n,gn:=gn}with
  |none=>none
  |some false=>some {slot:=su o (some (.fB [])),upd:=[],vis:=some [],loc:=[],base:=c,next:=c,fin:=some (xE a {h:=h,next:=c,lock:=lock})}
  |some true=>match AY P call o (bG.eval {t:=lU t (o.looksAt ops),n:=n,gn:=gn}) (xE a {h:=h,next:=c,lock:=lock})with
   |some (v,τ)=>some {slot:=su o v,upd:=[],vis:=some [],loc:=[],base:=c,next:=c,fin:=some τ}
   |none=>none
def yX(P:Program)(call:Caller)(ops:W5)(M:Q2)(N0 a d n:Nat)(b:Wk)(i:Nat)(t:Tr AV)(h:Tr bI)(c:Nat):Option dM:=
 if oQ ops M i=true then MK P call ops a d n b i t h c else CJ P call ops M N0 a d n b i t h c
def Qa(P:Program)(call:Caller)(ops:W5)(M:Q2)(N0 b d n:Nat):Nat->List dM->Nat->Tr AV->Tr bI->Nat->Option (Wk×Tr AV×Tr bI×Nat)
 |0,a,_,t,h,c=>some (a,t,h,c)
 |m+1,a,i,t,h,c=>
  match yX P call ops M N0 b d n a i t h c with
  |none=>none
  |some r=>Qa P call ops M N0 b d n m (a++[r]) (i+1) (F5 r.slot t) (F5 r.upd h) r.next
def qW(l m:Q2):Bool:=l.all λk=>!(m.contains k)
def Rj(ops:W5)(N0:Nat)(i j:Nat)(r s:dM):Bool:=
 let a:=keysOf s.upd
 qW (keysOf r.slot) (keysOf s.slot)&&
 (match ops[i]? with|some o=>qW (o.looksAt ops) (keysOf s.slot)|none=>false)&&
 qW (keysOf r.upd) a&&
 (match r.vis with
  |some l=>qW l a
  |none=>Nat.blt j i ||(a.all (Nat.ble N0 ·)&&qW r.loc a&&Nat.beq s.base s.next))
def alB(ops:W5)(i j:Nat):Bool:=
 match ops[i]?,ops[j]? with
 |some o,some b=>
  match b.dst with
  |none=>true
  |some a=>(match o.dst with|some d=>!(Nat.beq d a)|none=>true)&&!((o.looksAt ops).contains a)
 |_,_=>false
def ac5(ops:W5)(M:Q2):Bool:=
 (List.range ops.size).all λi=>(List.range ops.size).all λj=>!(zx M i j) ||alB ops i j
def U7(N0 i j:Nat)(r s:dM):Bool:=
 qW (keysOf r.upd) (keysOf s.upd)&&
 (match r.vis with
  |some l=>qW l (keysOf s.upd)
  |none=>Nat.blt j i ||((keysOf s.upd).all (Nat.ble N0 ·)&&qW r.loc (keysOf s.upd)&&Nat.beq s.base s.next))
def ZO(M:Q2)(N0:Nat)(rs:Wk):Bool:=
 rs.zipIdx.all λ(s,j)=>(s.upd.isEmpty&&Nat.beq s.base s.next) ||rs.zipIdx.all λ(r,i)=>!(zx M i j) ||U7 N0 i j r s
def agh(l:Q2):qW l []=true:=by unfold qW;simp
def ayU{ops:W5}{M:Q2}{N0:Nat}{rs:Wk}(a:ac5 ops M=true)(b:ZO M N0 rs=true)(x:∀(i:Nat) r,rs[i]? =some r->∃o v,ops[i]? =some o/\r.slot=su o v):
 ∀(i j:Nat) r s,rs[i]? =some r->rs[j]? =some s->zx M i j=true->Rj ops N0 i j r s=true:=by
 intro i j r s y z A;obtain⟨o,v,m,n⟩:=x i r y;obtain⟨E,J,f,p⟩:=x j s z;have q:i<ops.size:=(rG.1 m).1;have t:j<ops.size:=(rG.1 f).1;unfold ac5 at a;rw[List.all_eq_true]at a;have B:=a i (by simpa using q);rw[List.all_eq_true]at B;have c:=B j (by simpa using t);rw[A]at c;simp only[Yq,Ag,alB,m,f]at c;have h:U7 N0 i j r s=true:=by
  unfold ZO at b;rw[List.all_eq_true]at b;have g:=b (s,j) (by rw[amF];simpa using z);simp only[oK,aK]at g;rcases g with⟨l,F⟩|g
  ·have G:s.upd=[]:=by simpa using l
   unfold U7;rw[G];simp only[keysOf,jI,agh,ad4,F,Bool.and_self,Bool.or_true];cases r.vis<;>rfl
  ·rw[List.all_eq_true]at g;have l:=g (r,i) (by rw[amF];simpa using y);simp only[A,Yq,Ag]at l;exact l
 unfold U7 at h;rw[aK]at h;unfold Rj;rw[m];simp only[n,p,h.1,h.2,SH];unfold su;cases u:E.dst with
 |none=>simp[keysOf,agh]
 |some D=>
  rw[u]at c;simp only[aK]at c;rw[aK];constructor
  ·cases H:o.dst with
   |none=>simp[keysOf,qW]
   |some d=>
    rw[H]at c;have:=c.1;simp only[keysOf,iP,jI,qW,rH,ad4,SH,wC]at this⊢;rw[List.contains_cons];simp only[List.contains_nil,Le];cases w:d==D with
    |false=>rfl
    |true=>have e:=eq_of_beq w;subst e;simp at this
  ·have:=c.2;simp only[keysOf,iP,jI,qW,List.all_eq_true,wC]at this⊢;intro k I;rw[List.contains_cons];simp only[List.contains_nil,Le];cases w:k==D with
   |false=>rfl
   |true=>have e:=eq_of_beq w;subst e;rw[ad8.2 I]at this;cases this
def als(n:Nat)(rs:Wk):Bool:=rs.all λr=>Nat.ble r.base r.next&&r.slot.all λp=>Nat.blt p.1 n
def YQ(P:Program)(call:Caller)(ops:W5)(a:bG)(J:aA):Option (bG×aA):=
 let M:=nU ops.toList []
 let N0:=J.next
 if QT M 0&&Nat.ble J.lock J.next then
  match Qa P call ops M N0 J.lock a.gn a.n ops.size [] 0 a.t J.h (N0+ops.size)with
  |some (rs,t,h,c)=>
   if ac5 ops M&&ZO M N0 rs&&als a.n rs&&Nat.ble c vH then
    some ({a with t:=t},xE rs {h:=h,next:=c,lock:=J.lock})
   else none
  |none=>none
 else none
def YP(P:Program)(call:Caller)(ops:W5)(a:bG)(J:aA):Option (bG×aA):=
 YQ P call ops a J
end
noncomputable section
variable[aH]
def Hl{a b:Nat}(h:a≠b):Nat.beq a b=false:=by
 cases e:Nat.beq a b with
 |false=>rfl
 |true=>exact absurd (bK e) h
section
variable{α:Type}
def gu:List (Nat×Option α)->Nat->Option (Option α)
 |[],_=>none
 |(k,v)::l,b=>match gu l b with
  |some x=>some x
  |none=>if b=k then some v else none
def aam:∀(l:List (Nat×Option α))(t:Tr α)(b:Nat),(F5 l t).get b=(gu l b).getD (t.get b)
 |[],t,b=>rfl
 |(k,v)::l,t,b=>by
  rw[F5,aam l,gu];cases gu l b with
  |some x=>rfl
  |none=>simp only[uF,Tr.vS];split<;>rfl
def zV:∀(l:List (Nat×Option α))(b:Nat),gu l b≠none↔b∈keysOf l
 |[],b=>by simp[gu,keysOf]
 |(k,v)::l,b=>by
  have a:=zV l b;simp only[keysOf,iP,bH]at a⊢;rw[gu];cases h:gu l b with
  |some x=>rw[h]at a;simp only[ne_eq,reduceCtorEq,not_false_eq_true,true_iff]at a;simp[a]
  |none=>rw[h]at a;simp only[ne_eq,not_true_eq_false,false_iff]at a;simp only[a,or_false];split<;>simp_all
def QO{l:List (Nat×Option α)}{b:Nat}(h:b∉keysOf l):gu l b=none:=by
 cases a:gu l b with
 |none=>rfl
 |some x=>exact absurd ((zV l b).1 (by rw[a];simp)) h
def mX:List (List (Nat×Option α))->Nat->(Nat->Bool)->Nat->Option (Option α)
 |[],_,_,_=>none
 |u::a,k,D,b=>match mX a (k+1) D b with
  |some x=>some x
  |none=>if D k=true then gu u b else none
def kR:List (List (Nat×Option α))->Nat->(Nat->Bool)->Tr α->Tr α
 |[],_,_,t=>t
 |u::a,k,D,t=>kR a (k+1) D (if D k=true then F5 u t else t)
def Ep:∀(a:List (List (Nat×Option α)))(k:Nat)(D:Nat->Bool)(t:Tr α)(b:Nat),(kR a k D t).get b=(mX a k D b).getD (t.get b)
 |[],_,_,_,_=>rfl
 |u::a,k,D,t,b=>by
  rw[kR,Ep a,mX];cases mX a (k+1) D b with
  |some x=>rfl
  |none=>
   simp only[uF];split
   ·rw[aam]
   ·rfl
def jD:List (List (Nat×Option α))->Tr α->Tr α
 |[],t=>t
 |u::a,t=>jD a (F5 u t)
def NG:∀(a:List (List (Nat×Option α)))(k:Nat)(D E:Nat->Bool)(b:Nat),(∀(j:Nat) u,a[j]? =some u->D (k+j)≠E (k+j)->gu u b=none)->mX a k D b=mX a k E b
 |[],_,_,_,_,_=>rfl
 |u::a,k,D,E,b,h=>by
  have f:=NG a (k+1) D E b (λj v g c=>h (j+1) v (by simpa using g) (by rw[show k+(j+1)=k+1+j by omega];exact c));have d:=h 0 u (by simp);rw[mX,mX,f];cases mX a (k+1) E b with
  |some x=>rfl
  |none=>
   simp only[oL]at d;by_cases e:D k=E k
   ·rw[e]
   ·rw[d e];simp
def awI(a:List (List (Nat×Option α)))(k:Nat)(D:Nat->Bool)(b:Nat)(h:∀j,j<a.length->D (k+j)=false):mX a k D b=none:=by
 induction a generalizing k with
 |nil=>rfl
 |cons u a c=>rw[mX,c (k+1) (λj d=>by rw[show k+1+j=k+(j+1) by omega];exact h (j+1) (by simpa using d))];have:=h 0 (by simp);simp only[oL]at this;simp[this]
def aa4:∀(a:List (List (Nat×Option α)))(k:Nat)(D:Nat->Bool)(b:Nat)(x:Option α),mX a k D b=some x->∃(j:Nat)(u:List (Nat×Option α)),a[j]? =some u/\D (k+j)=true/\gu u b=some x
 |[],_,_,_,_,h=>by simp[mX]at h
 |u::a,k,D,b,x,h=>by
  rw[mX]at h;split at h
  ·next y c=>
   cases h;obtain⟨j,v,h1,d,e⟩:=aa4 a (k+1) D b _ c;exact⟨j+1,v,by simpa using h1,by rw[show k+(j+1)=k+1+j by omega];exact d,e⟩
  ·split at h
   ·next f=>exact⟨0,u,by simp,by simpa using f,h⟩
   ·cases h
def Nc:∀(a:List (List (Nat×Option α)))(i k:Nat)(t:Tr α)(b:Nat),(jD (a.take i) t).get b=(mX a k (λj=>decide (j<k+i)) b).getD (t.get b)
 |[],i,k,t,b=>by simp[jD,mX]
 |u::a,0,k,t,b=>by rw[awI _ _ _ _ (λj _=>by simp)];rfl
 |u::a,i+1,k,t,b=>by
  have c:=Nc a i (k+1) (F5 u t) b;simp only[Am,jD];rw[c,mX];have:(λj=>decide (j<k+1+i))=λj=>decide (j<k+(i+1)):=by funext j;congr 1;apply propext;omega
  rw[this];cases mX a (k+1) (λj=>decide (j<k+(i+1))) b with
  |some x=>rfl
  |none=>simp only[uF];rw[aj (by simp),aam]
def aa3:∀(a:List (List (Nat×Option α)))(k i:Nat)(D:Nat->Bool)(b:Nat)(u:List (Nat×Option α)),a[i]? =some u->D (k+i)=false->
 (∀(j:Nat) v,a[j]? =some v->i<j->D (k+j)=true->gu u b≠none->gu v b=none)->
 mX a k (λj=>D j ||Nat.beq j (k+i)) b=match gu u b with|some x=>some x|none=>mX a k D b
 |[],_,_,_,_,_,h,_,_=>by simp at h
 |v::a,k,0,D,b,u,h,d,c=>by
  simp at h;subst h;have tail:mX a (k+1) (λj=>D j ||Nat.beq j (k+0)) b=mX a (k+1) D b:=by refine NG _ _ _ _ _ λj w l g=>?_;exfalso;apply g;have:Nat.beq (k+1+j) (k+0)=false:=Hl (by omega);simp only[this,Le]
  simp only[mX,tail];simp only[oL]at d⊢;have m:Nat.beq k k=true:=by simp
  cases f:gu v b with
  |none=>simp[m,d,f]
  |some x=>
   have:mX a (k+1) D b=none:=by
    cases p:mX a (k+1) D b with
    |none=>rfl
    |some y=>obtain⟨j,w,q,r,n⟩:=aa4 _ _ _ _ _ p;have:=c (j+1) w (by simpa using q) (by omega) (by rw[show k+(j+1)=k+1+j by omega];exact r) (by rw[f];simp);rw[this]at n;cases n
   simp[this,m,f]
 |v::a,k,i+1,D,b,u,h,d,c=>by
  have o:=aa3 a (k+1) i D b u (by simpa using h) (by rw[show k+1+i=k+(i+1) by omega];exact d) (λj w l s t=>c (j+1) w (by simpa using l) (by omega) (by rw[show k+(j+1)=k+1+j by omega];exact t));have e:(λj=>D j ||Nat.beq j (k+1+i))=λj=>D j ||Nat.beq j (k+(i+1)):=by funext j;congr 2;omega
  rw[e]at o;simp only[mX,o];have z:Nat.beq k (k+(i+1))=false:=Hl (by omega);cases f:gu u b with
  |some x=>simp
  |none=>simp[z]
def CV(t:Tr α):∀(l:Q2)(b:Nat),(lU t l).get b=if b∈l then t.get b else none
 |[],b=>by simp[lU]
 |k::l,b=>by
  rw[lU,Tr.vS,CV t l];by_cases e:b=k
  ·subst e;simp
  ·simp[e]
def ahj:∀(l:Q2)(t:Tr α)(b:Nat),(Gw t l).get b=if b∈l then none else t.get b
 |[],t,b=>by simp[Gw]
 |k::l,t,b=>by
  rw[Gw,ahj l,Tr.vS];by_cases e:b=k
  ·subst e;simp
  ·simp[e]
end
def abf{get:Nat->Nat}{j:Nat}:∀{es:List Edge},(Bh get es).testBit j=true->∃e∈es,Region.binds .any e=true/\(j=e.on\/(get e.on).testBit j=true)
 |[],h=>by simp[Bh]at h
 |e::es,h=>by
  rw[Bh]at h;split at h
  ·next d=>
   rw[Tq,Tq,oK,oK,Nat.testBit_two_pow]at h;rcases h with(h|h)|h
   ·exact⟨e,by simp,d,.inl (Bq h).symm⟩
   ·exact⟨e,by simp,d,.inr h⟩
   ·obtain⟨a,h1,b,c⟩:=abf h;exact⟨a,by simp[h1],b,c⟩
  ·obtain⟨a,h1,b,c⟩:=abf h;exact⟨a,by simp[h1],b,c⟩
def ai1:∀(os:List Oper)(a:Q2),(nU os a).length=a.length+os.length/\(∀k,k<a.length->(nU os a)[k]? =a[k]?)/\
 ∀(k:Nat) o,os[k]? =some o->(nU os a)[a.length+k]? =some (Bh (λj=>((nU os a).take (a.length+k)).getD j 0) o.after.toList)
 |[],a=>by simp[nU]
 |o::os,a=>by
  obtain⟨h1,b,e⟩:=ai1 os (a++[Bh (λk=>a.getD k 0) o.after.toList]);rw[nU];simp only[eP,gV,kY]at h1 b e;refine⟨by simp only[gV];omega,λk f=>?_,λk g c=>?_⟩
  ·rw[b k (by omega),og f]
  ·cases k with
   |zero=>
    simp at c;subst c;rw[oL,b a.length (by omega),xI (dD _)];simp only[BP,kX];congr 2;funext j;by_cases d:j<a.length
    ·rw[zC,zC,mg,aj d,b j (by omega),og d]
    ·rw[zC,zC,mg,ah d,wG (by omega)]
   |succ k=>have:=e k g (by simpa using c);rw[show a.length+1+k=a.length+(k+1) by omega]at this;exact this
def ai2:∀(M:Q2)(k:Nat),QT M k=true->∀(j m:Nat),M[j]? =some m->m<2^(k+j)
 |[],_,_,j,m,h=>by simp at h
 |x::M,k,h,j,m,a=>by
  simp only[QT,aK]at h;cases j with
  |zero=>simp at a;subst a;have b:=h.1;rw[jB]at b;simpa using b
  |succ j=>have:=ai2 M (k+1) h.2 j m (by simpa using a);rw[show k+(j+1)=k+1+j by omega];exact this
end
noncomputable section
variable[aH]
variable{P:Program}
def YR{F:Env}{τ τ':aA}{w:World}(h:SR P F τ w){call:Caller}(d:sO P call){o:Oper}{a:bG}{A:Act}(j:TR P F a A){r:Q4}{K:Act->World->Prop}{Q:Exit->Act->World->Prop}
 (k:wM P call o a.eval τ=some (r,τ')) (i:∀x F' w',St P F τ w F' τ' w'->(∀v,r=some v->VR F' v x)->K (A.put o.dst x) w'):o.wp P A w K Q:=by
 cases l:GU o.op with
 |true=>refine aft h d j l k λv x F' w' m b e=>i x F' w' b λu g=>by rw[m]at g;cases g;exact e
 |false=>
  obtain⟨n,w',F',f,b,c⟩:=ajx h (λx v e=>Qi h j x v e) l k;unfold Oper.wp;rw[f];cases r with
  |none=>subst c;exact i undef F' w' b (by simp)
  |some v=>obtain⟨x,rfl,e⟩:=c;exact i x F' w' b (λu g=>by cases g;exact e)
def Env.cut(F:Env)(c:Nat):Env:=⟨λid=>if id<c then F id else none,F.ro,λid=>decide (id<c)&&F.gh id⟩
def Env.MJ(F:Env)(c:Nat):(F.cut c).le F:=⟨λid q h=>(by
 simp only[Env.cut]at h;split at h
 ·exact h
 ·cases h),λ_ _ h=>h,λ_ h=>(aK _ _▸h:_/\_).2⟩
def Env.af0{F:Env}{c id:Nat}(h:id<c)(a:F.gh id=true):(F.cut c).gh id=true:=by simp[Env.cut,h,a]
mutual
def VR.cut{F:Env}{c:Nat}:∀(a:AV)(v:Value),a.under c=true->VR F a v->VR (F.cut c) a v
 |.b _,_,_,b=>by simpa only[VR]using b
 |.i _ _,_,_,b=>by simpa only[VR]using b
 |.s _,_,_,b=>by simpa only[VR]using b
 |.jU,_,_,b=>by simpa only[VR]using b
 |.p id _,_,d,b=>by simp only[VR]at b⊢;obtain⟨q,h,e⟩:=b;simp only[AV.under,jB]at d;exact⟨q,by simp only[Env.cut];rw[aj d];exact h,e⟩
 |.gK,_,_,b=>by simpa only[VR]using b
 |.sl id _ _ _,_,d,b=>by simp only[VR]at b⊢;obtain⟨q,h,e⟩:=b;simp only[AV.under,jB]at d;exact⟨q,by simp only[Env.cut];rw[aj d];exact h,e⟩
 |.qK,_,_,b=>by simpa only[VR]using b
 |.mp id,_,d,b=>by simp only[VR]at b⊢;obtain⟨q,h,e⟩:=b;simp only[AV.under,jB]at d;exact⟨q,by simp only[Env.cut];rw[aj d];exact h,e⟩
 |.zW,_,_,b=>by simpa only[VR]using b
 |.fn _ w o,_,d,b=>by simp only[VR]at b⊢;simp only[AV.under,aK]at d;obtain⟨t,u,e,f,g⟩:=b;exact⟨t,u,e,aC.cut w t d.1 f,aC.cut o u d.2 g⟩
 |.uP,_,_,b=>by simpa only[VR]using b
 |.jq _ a,_,d,b=>by simp only[VR]at b⊢;simp only[AV.under]at d;obtain⟨x,e,f⟩:=b;exact⟨x,e,VR.cut a x d f⟩
 |.agg l,_,d,b=>by simp only[VR]at b⊢;simp only[AV.under]at d;obtain⟨x,e,f⟩:=b;exact⟨x,e,aC.cut l x d f⟩
 |.fB l,_,d,b=>by simp only[VR]at b⊢;simp only[AV.under]at d;obtain⟨x,e,f⟩:=b;exact⟨x,e,aC.cut l x d f⟩
 |.z _ _ _,_,_,b=>by simpa only[VR]using b
 |.ro l,_,d,b=>by
  simp only[VR]at b⊢;simp only[AV.under]at d;rcases b with b|⟨r,s,y,j,z,e,A,f,g,m⟩
  ·exact .inl b
  right;exact⟨r,s,y,j,z,e,A,aC.cut l j d f,g,m⟩
 |.rp a _,_,d,b=>by simp only[VR]at b⊢;simp only[AV.under]at d;obtain⟨r,base,o,n,B,x,f,g,m⟩:=b;exact⟨r,base,o,n,B,x,f,VR.cut a x d g,m⟩
 |.nd _,_,_,b=>by simp only[VR]at b⊢;exact b
 |.rx _ _,_,_,b=>by simp only[VR]at b⊢;exact b
 |.sv id _,_,d,b=>by
  simp only[VR]at b⊢;simp only[AV.under,jB]at d;obtain⟨j,f,⟨q,h,g⟩|g⟩:=b
  ·exact⟨j,f,.inl ⟨q,by simp only[Env.cut];rw[aj d];exact h,g⟩⟩
  ·exact⟨j,f,.inr ⟨Env.af0 d g.1,g.2⟩⟩
 |.pv id _ _,_,d,b=>by simp only[VR]at b⊢;simp only[AV.under,jB]at d;obtain⟨q,k,i,h,g⟩:=b;exact⟨q,k,i,by simp only[Env.cut];rw[aj d];exact h,g⟩
 |.pd id _,_,d,b=>by simp only[VR]at b⊢;simp only[AV.under,jB]at d;obtain⟨j,p,f,g,m⟩:=b;exact⟨j,p,f,g,λD=>by obtain⟨q,h,E⟩:=m D;exact⟨q,by simp only[Env.cut];rw[aj d];exact h,E⟩⟩
def aC.cut{F:Env}{c:Nat}:∀(l:Q3)(vs:Q6),AV.qO c l=true->aC F l vs->aC (F.cut c) l vs
 |[],_,_,b=>by simpa only[aC]using b
 |a::l,_,d,b=>by simp only[aC]at b⊢;simp only[AV.qO,aK]at d;obtain⟨x,xs,e,h1,f⟩:=b;exact⟨x,xs,e,VR.cut a x d.1 h1,aC.cut l xs d.2 f⟩
end
def al5{c:Nat}:∀{l:Q3}{k:Nat}{a:AV},AV.qO c l=true->l[k]? =some a->a.under c=true
 |[],k,a,_,h=>by simp at h
 |x::l,k,a,b,h=>by
  simp only[AV.qO,aK]at b;cases k with
  |zero=>simp at h;subst h;exact b.1
  |succ k=>exact al5 b.2 (by simpa using h)
def OR.cut{F:Env}{c:Nat}{q:Place}{w:World}{o:bI}(j:Cc c o=true)(h:OR P F q w o):OR P (F.cut c) q w o:=by
 cases o with
 |cells l G rw H=>obtain⟨v,d,y,i,r⟩:=h;exact⟨v,d,y,i,{r with cell:=λk a g=>by obtain⟨x,I,J⟩:=r.cell k a g;exact⟨x,I,VR.cut a x (al5 j g) J⟩}⟩
 |iter s pos=>exact h
 |map es=>obtain⟨z,b,i,p,u⟩:=h;refine⟨z,b,i,p,λk e g=>?_⟩;obtain⟨m,A,B,D⟩:=u k e g;simp only[Cc,List.all_eq_true,aK]at j;have:=j e (rQ g);exact⟨m,A,VR.cut _ _ this.1 B,VR.cut _ _ this.2 D⟩
 |iterM m=>
  cases m with
  |none=>exact h
  |some m=>obtain⟨L,t,last,N,i,p⟩:=h;simp only[Cc,jB]at j;exact⟨L,t,last,N,by simp only[Env.cut];rw[aj j];exact i,p⟩
 |smap n Y Z=>exact h
 |pmap es=>obtain⟨O,z,b,E,i,Q,p,u⟩:=h;refine⟨O,z,b,E,i,Q,p,λk e g=>?_⟩;obtain⟨m,A,B,D⟩:=u k e g;simp only[Cc,List.all_eq_true]at j;exact⟨m,A,B,VR.cut _ _ (j e (rQ g)) D⟩
 |vec n G f=>obtain⟨R,v,d,y,S,i,p,u,T,V,W,r,X⟩:=h;exact⟨R,v,d,y,S,i,p,u,T,V,W,{r with cell:=λk a g=>by simp at g},X⟩
def St.merge{F Z uw F':Env}{J J' τ τ':aA}{w w':World}{upd:WP}(v:SR P F J w)(VH:SR P Z τ w)(a:St P Z τ w uw τ' w')(sub:∀id o,τ.get id=some o->J.get id=some o)(hi:Z.le F)(aa:Z.ro=F.ro)(VP:F'.ro=uw.ro)
 (h1:F.le F') (h2:uw.le F') (hg:∀b,J'.get b=(gu upd b).getD (J.get b))
 (V:∀b o,gu upd b=some (some o)->τ'.get b=some o/\((∃o0,τ.get b=some o0/\o0.own=true)\/(o.own=true/\τ.get b=none)))
 (OE:∀id o,τ.get id=some o->o.own=true->τ.lock<=id->gu upd id≠none) (L:J.lock<=τ.lock) (Ew:∀b,gu upd b≠none->τ.lock<=b)
 (ac:∀id q,F' id=some q->id<J'.next) (N:∀id,F'.gh id=true->F' id=none/\id<J'.next):
 SR P F' J' w'/\w.heap.size<=w'.heap.size/\
 (∀bl,bl<w.heap.size->(∀id o q,J.get id=some o->o.own=true->J.lock<=id->F id=some q->q.bl≠bl)->w'.heap[bl]? =w.heap[bl]?)/\
 (∀id o q,J'.get id=some o->o.own=true->J.lock<=id->F' id=some q->w.heap.size<=q.bl\/∃d o0 i,J.get d=some o0/\o0.own=true/\J.lock<=d/\F d=some i/\i.bl=q.bl)/\
 (∀b,F'.ro b≠none->F.ro b≠none\/w.heap.size<=b\/∃d o0 i,J.get d=some o0/\o0.own=true/\J.lock<=d/\F d=some i/\i.bl=b):=by
 have O:∀b o q,gu upd b=none->J.get b=some o->F b=some q->q.bl<w.heap.size->w'.heap[q.bl]? =w.heap[q.bl]?:=by intro b o q s n I ad;refine a.keep _ ad ?_;intro id o2 q2 y l z A;have ae:id≠b:=λe=>OE id o2 y l z (by rw[e];exact s);exact v.sep id o2 b o q2 q (sub _ _ y) l n ae (hi.pl _ _ A) I
 have c:∀b o q,gu upd b=some (some o)->F' b=some q->OR P F' q w' o/\uw b=some q:=by
  intro b o q s j;rcases a.rel.live b o (V b o s).1 with⟨p,Q,R⟩|⟨t,_⟩
  ·have:=h2.pl _ _ Q;rw[j]at this;cases this;exact⟨R.mono h2,Q⟩
  ·rw[(N b (h2.gh b t)).1]at j;cases j
 have m:∀id o q,J.get id=some o->F' id=some q->F id=some q/\OR P F q w o:=by
  intro id o q n j;rcases v.live id o n with⟨p,Q,R⟩|⟨t,_⟩
  ·have:=h1.pl _ _ Q;rw[j]at this;cases this;exact⟨Q,R⟩
  ·rw[(N id (h1.gh id t)).1]at j;cases j
 have S:∀b o q,gu upd b=some (some o)->uw b=some q->(w.heap.size<=q.bl)\/(∃d o0 i,τ.get d=some o0/\o0.own=true/\τ.lock<=d/\Z d=some i/\i.bl=q.bl):=by
  intro b o q s I;obtain⟨h4,W⟩:=V b o s;rcases W with⟨o0,h6,h7⟩|⟨h6,h7⟩
  ·rcases VH.live b o0 h6 with⟨p',ab,_⟩|⟨t,_⟩
   ·have:=a.ext.pl _ _ ab;rw[I]at this;cases this;exact .inr ⟨b,o0,q,h6,h7,Ew b (by rw[s];simp),ab,rfl⟩
   ·rw[(a.rel.kK b (a.ext.gh b t)).1]at I;cases I
  ·rcases a.own b o q h4 h6 (Ew b (by rw[s];simp)) I with h8|h8
   ·exact .inl h8
   ·exact .inr h8
 have PY:∀id o,J'.get id=some o->(gu upd id=some (some o))\/(gu upd id=none/\J.get id=some o):=by
  intro id o n;rw[hg]at n;cases hl:gu upd id with
  |none=>rw[hl]at n;exact .inr ⟨rfl,n⟩
  |some x=>rw[hl]at n;simp only[rV]at n;subst n;exact .inl rfl
 refine⟨⟨?_,ac,?_,N,?_,λb o s=>a.rel.jl b o (by rw[<-VP];exact s),?_,λp Q=>(v.tabs p Q).mono h1⟩,a.size,?_,?_,?_⟩
 ·intro g af;obtain⟨sz,es,W⟩:=v.nS g af;exact⟨sz,es,h1.pl _ _ W⟩
 ·intro id o n;rcases PY id o n with h4|⟨h4,W⟩
  ·exact(a.rel.live id o (V id o h4).1).mono h2
  ·exact((v.live id o W).heap (w:=w) λq I R=>O id o q h4 W I R.lt).mono h1
 ·intro id o h B q X y l z A a5 a6;rcases PY id o y with k|⟨k,f⟩<;>rcases PY h B z with Y|⟨Y,D⟩
  ·obtain⟨_,T⟩:=c id o q k a5;obtain⟨_,c4⟩:=c h B X Y a6;exact a.rel.sep id o h B _ _ (V _ _ k).1 l (V _ _ Y).1 A T c4
  ·obtain⟨_,T⟩:=c id o q k a5;obtain⟨d1,d2⟩:=m h B X D a6;rcases S id o q k T with e|⟨d,o0,i,r,u,E,G,H⟩
   ·have:=d2.lt;omega
   ·rw[<-H];exact v.sep d o0 h B i X (sub _ _ r) u D (λe=>OE d o0 r u E (by rw[e];exact Y)) (hi.pl _ _ G) d1
  ·obtain⟨_,c4⟩:=c h B X Y a6;obtain⟨d1,d2⟩:=m id o q f a5;rcases S h B X Y c4 with e|⟨d,o0,i,r,u,E,G,H⟩
   ·have:=d2.lt;omega
   ·rw[<-H];exact v.sep id o d o0 q i f l (sub _ _ r) (λe=>OE d o0 r u E (by rw[<-e];exact k)) d1 (hi.pl _ _ G)
  ·exact v.sep id o h B _ _ f l D A (m id o q f a5).1 (m h B X D a6).1
 ·intro id o q y l z;rcases PY id o y with k|⟨k,f⟩
  ·obtain⟨_,T⟩:=c id o q k z;rw[VP];exact a.rel.lV id o q (V _ _ k).1 l T
  ·obtain⟨d1,d2⟩:=m id o q f z;cases R:F'.ro q.bl with
   |none=>rfl
   |some o2=>
    exfalso;rcases a.rF q.bl (by rw[<-VP,R];simp)with e|e|⟨d,o0,i,r,u,E,G,H⟩
    ·rw[aa,v.lV id o q f l d1]at e;exact e rfl
    ·have:=d2.lt;omega
    ·exact v.sep d o0 id o i q (sub _ _ r) u f (λe=>OE d o0 r u E (by rw[e];exact k)) (hi.pl _ _ G) d1 H
 ·intro bl ag ai;exact a.keep bl ag λid o q y l z A=>ai id o q (sub _ _ y) l (kF L z) (hi.pl _ _ A)
 ·intro id o q y l z A;rcases PY id o y with k|⟨k,f⟩
  ·obtain⟨_,T⟩:=c id o q k A;rcases S id o q k T with e|⟨d,o0,i,r,u,E,G,H⟩
   ·exact .inl e
   ·exact .inr ⟨d,o0,i,sub _ _ r,u,kF L E,hi.pl _ _ G,H⟩
  ·obtain⟨d1,_⟩:=m id o q f A;exact .inr ⟨id,o,q,f,l,z,d1,rfl⟩
 ·intro b s;rcases a.rF b (by rw[<-VP];exact s)with e|e|⟨d,o0,i,r,u,E,G,H⟩
  ·rw[aa]at e;exact .inl e
  ·exact .inr (.inl e)
  ·exact .inr (.inr ⟨d,o0,i,sub _ _ r,u,kF L E,hi.pl _ _ G,H⟩)
def St.then{F0 F F':Env}{J0 J J':aA}{w0 w w':World}(h:St P F0 J0 w0 F J w)(n:F.le F')(rel:SR P F' J' w')(size:w.heap.size<=w'.heap.size)
 (keep:∀bl,bl<w.heap.size->(∀id o q,J.get id=some o->o.own=true->J.lock<=id->F id=some q->q.bl≠bl)->w'.heap[bl]? =w.heap[bl]?)
 (own:∀id o q,J'.get id=some o->o.own=true->J.lock<=id->F' id=some q->w.heap.size<=q.bl\/∃f o0 g,J.get f=some o0/\o0.own=true/\J.lock<=f/\F f=some g/\g.bl=q.bl)
 (os:w'.os=w.os) (tape:w'.tape=w.tape) (output:w'.output=w.output) (lock:J'.lock=J.lock) (next:J.next<=J'.next)
 (new:∀id,F'.has id->F.has id\/(J0.next<=id/\id<J'.next))
 (rF:∀b,F'.ro b≠none->F.ro b≠none\/w.heap.size<=b\/∃f o0 g,J.get f=some o0/\o0.own=true/\J.lock<=f/\F f=some g/\g.bl=b):St P F0 J0 w0 F' J' w':=by
 refine⟨h.ext.trans n,rel,kF h.size size,?_,?_,os.trans h.os,tape.trans h.tape,output.trans h.output,lock.trans h.lock,kF h.next next,?_,?_⟩
 ·intro bl j k;rw[keep bl (yM j h.size) ?_,h.keep bl j k];intro id o q h1 m i l;rcases h.own id o q h1 m (h.lock▸i) l with x|⟨f,o0,g,a,b,c,d,e⟩
  ·omega
  ·rw[<-e];exact k f o0 g a b c d
 ·intro id o q h1 m i l;rcases own id o q h1 m (by rw[h.lock];exact i) l with x|⟨f,o0,g,a,b,c,d,e⟩
  ·exact .inl (kF h.size x)
  ·rcases h.own f o0 g a b (h.lock▸c) d with L|⟨p,o1,y,r,s,t,d1,u⟩
   ·left;omega
   ·exact .inr ⟨p,o1,y,r,s,t,d1,u.trans e⟩
 ·intro id z;rcases new id z with h1|h1
  ·rcases h.new id h1 with i|⟨i,l⟩
   ·exact .inl i
   ·exact .inr ⟨i,yM l next⟩
  ·exact .inr h1
 ·intro b A;rcases rF b A with h1|h1|⟨f,o0,g,r,s,t,d1,u⟩
  ·exact h.rF b h1
  ·exact .inr (.inl (kF h.size h1))
  ·rcases h.own f o0 g r s (h.lock▸t) d1 with m|⟨v,B,D,E,G,H,d2,I⟩
   ·right;left;omega
   ·exact .inr (.inr ⟨v,B,D,E,G,H,d2,I.trans u⟩)
def lI(rs:Wk):List (List (Nat×Q4)):=rs.map (·.slot)
def iF(rs:Wk):List WP:=rs.map (·.upd)
def jO:Nat->List dM->Nat->Nat
 |c,_,0=>c
 |c,[],_=>c
 |_,r::rs,k+1=>jO r.next rs k
def af2{call:Caller}{ops:W5}{M:Q2}{N0 b l n:Nat}:∀(m:Nat)(a:Wk)(i:Nat)(t:Tr AV)(h:Tr bI)(c:Nat)(rs:Wk)(e:Tr AV)(f:Tr bI)(g:Nat),
 Qa P call ops M N0 b l n m a i t h c=some (rs,e,f,g)->∃new,rs=a++new/\new.length=m/\e=jD (lI new) t/\f=jD (iF new) h/\g=jO c new m/\
  ∀(k:Nat) r,new[k]? =some r->yX P call ops M N0 b l n (a++new.take k) (i+k) (jD ((lI new).take k) t) (jD ((iF new).take k) h) (jO c new k)=some r
 |0,a,i,t,h,c,rs,e,f,g,d=>by simp only[Qa,aY,pF]at d;obtain⟨rfl,rfl,rfl,rfl⟩:=d;exact⟨[],by simp,rfl,rfl,rfl,rfl,by simp⟩
 |m+1,a,i,t,h,c,rs,e,f,g,d=>by
  unfold Qa at d;split at d
  ·cases d
  ·next r o=>
   obtain⟨new,p,q,u,v,w,x⟩:=af2 m _ _ _ _ _ _ _ _ _ d;refine⟨r::new,by rw[p];simp,by simp[q],?_,?_,?_,?_⟩
   ·rw[u];rfl
   ·rw[v];rfl
   ·rw[w];rfl
   ·intro k s j;cases k with
    |zero=>simp at j;subst j;simpa[jD,lI,iF,jO]using o
    |succ k=>have:=x k s (by simpa using j);rw[show i+1+k=i+(k+1) by omega]at this;simp only[List.append_assoc,O1]at this;simpa[lI,iF,jD,jO]using this
def asg{call:Caller}{ops:W5}{M:Q2}{N0 b e n i c:Nat}{d:Wk}{t:Tr AV}{h:Tr bI}{r:dM}(a:CJ P call ops M N0 b e n d i t h c=some r):r.base=c:=by
 unfold CJ at a;split at a
 ·cases a
 ·simp only at a;split at a
  ·cases a
  ·cases a;rfl
  ·split at a
   ·split at a
    ·cases a;rfl
    ·cases a
   ·split at a
    ·split at a
     ·split at a
      ·cases a;rfl
      ·cases a
     ·cases a
    ·split at a
     ·split at a
      ·cases a;rfl
      ·cases a
     ·cases a
    ·split at a
     ·split at a
      ·cases a;rfl
      ·cases a
     ·cases a
    ·split at a
     ·cases a;rfl
     ·split at a
      ·split at a
       ·cases a;rfl
       ·cases a
      ·cases a
def ash{call:Caller}{ops:W5}{M:Q2}{N0 d f n i c:Nat}{e:Wk}{t:Tr AV}{h:Tr bI}{r:dM}(a:CJ P call ops M N0 d f n e i t h c=some r):∃o v,ops[i]? =some o/\r.slot=su o v:=by
 unfold CJ at a;split at a
 ·cases a
 ·next o b=>
  simp only at a;split at a
  ·cases a
  ·cases a;exact⟨o,_,b,rfl⟩
  ·split at a
   ·split at a
    ·cases a;exact⟨o,_,b,rfl⟩
    ·cases a
   ·split at a
    ·split at a
     ·split at a
      ·cases a;exact⟨o,_,b,rfl⟩
      ·cases a
     ·cases a
    ·split at a
     ·split at a
      ·cases a;exact⟨o,_,b,rfl⟩
      ·cases a
     ·cases a
    ·split at a
     ·split at a
      ·cases a;exact⟨o,_,b,rfl⟩
      ·cases a
     ·cases a
    ·split at a
     ·cases a;exact⟨o,_,b,rfl⟩
     ·split at a
      ·split at a
       ·cases a;exact⟨o,_,b,rfl⟩
       ·cases a
      ·cases a
def asj{call:Caller}{ops:W5}{M:Q2}{N0 b e n i c:Nat}{d:Wk}{t:Tr AV}{h:Tr bI}{r:dM}(a:CJ P call ops M N0 b e n d i t h c=some r):r.fin=none:=by
 unfold CJ at a;split at a
 ·cases a
 ·simp only at a;split at a
  ·cases a
  ·cases a;rfl
  ·split at a
   ·split at a
    ·cases a;rfl
    ·cases a
   ·split at a
    ·split at a
     ·split at a
      ·cases a;rfl
      ·cases a
     ·cases a
    ·split at a
     ·split at a
      ·cases a;rfl
      ·cases a
     ·cases a
    ·split at a
     ·split at a
      ·cases a;rfl
      ·cases a
     ·cases a
    ·split at a
     ·cases a;rfl
     ·split at a
      ·split at a
       ·cases a;rfl
       ·cases a
      ·cases a
def asi{call:Caller}{ops:W5}{M:Q2}{N0 b e n i c:Nat}{d:Wk}{t:Tr AV}{h:Tr bI}{r:dM}(a:yX P call ops M N0 b e n d i t h c=some r):r.base=c:=by
 unfold yX at a;split at a
 ·unfold MK at a;split at a
  ·cases a
  ·split at a
   ·cases a
   ·cases a;rfl
   ·split at a
    ·cases a;rfl
    ·cases a
 ·exact asg a
def asl{call:Caller}{ops:W5}{M:Q2}{N0 b f n i c:Nat}{d:Wk}{t:Tr AV}{h:Tr bI}{r:dM}(a:yX P call ops M N0 b f n d i t h c=some r):∃o v,ops[i]? =some o/\r.slot=su o v:=by
 unfold yX at a;split at a
 ·unfold MK at a;split at a
  ·cases a
  ·next o e=>
   split at a
   ·cases a
   ·cases a;exact⟨o,_,e,rfl⟩
   ·split at a
    ·cases a;exact⟨o,_,e,rfl⟩
    ·cases a
 ·exact ash a
structure sQ(ops:W5)(M:Q2)(rs:Wk)(n N0:Nat):Prop where
 hM:M=nU ops.toList []
 mok:QT M 0=true
 len:rs.length=ops.size
 pairs:∀(i j:Nat) r s,rs[i]? =some r->rs[j]? =some s->zx M i j=true->Rj ops N0 i j r s=true
 slot:∀(i:Nat) r,rs[i]? =some r->r.base<=r.next/\∀p∈r.slot,p.1<n
structure Ctx(P:Program)(call:Caller)(ops:W5)(M:Q2)(rs:Wk)(a0:bG)(J0:aA)(cf:Nat):Prop extends sQ ops M rs a0.n J0.next where
 one:∀(i:Nat) r,rs[i]? =some r->yX P call ops M J0.next J0.lock a0.gn a0.n (rs.take i) i (jD ((lI rs).take i) a0.t) (jD ((iF rs).take i) J0.h) (jO (J0.next+ops.size) rs i)=some r
 fin:cf=jO (J0.next+ops.size) rs ops.size
 big:cf<=vH
 lock:J0.lock<=J0.next
section
variable{call:Caller}{ops:W5}{M:Q2}{rs:Wk}{a0:bG}{J0:aA}{cf nn N0:Nat}
def PW:∀(rs:Wk)(c k:Nat)(r:dM),rs[k]? =some r->jO c rs (k+1)=r.next
 |[],c,k,r,h=>by simp at h
 |s::rs,c,0,r,h=>by simp at h;subst h;cases rs<;>rfl
 |s::rs,c,k+1,r,h=>by
  show jO s.next rs (k+1)=r.next
  exact PW rs s.next k r (by simpa using h)
def Ctx.base(C:Ctx P call ops M rs a0 J0 cf){i:Nat}{r:dM}(h:rs[i]? =some r):r.base=jO (J0.next+ops.size) rs i:=asi (C.one i r h)
def Ctx.mono(C:Ctx P call ops M rs a0 J0 cf):∀(k i:Nat),i+k<=rs.length->jO (J0.next+ops.size) rs i<=jO (J0.next+ops.size) rs (i+k)
 |0,i,_=>dD _
 |k+1,i,h=>by
  have c:=C.mono k i (by omega);have a:i+k<rs.length:=by omega
  have b:rs[i+k]? =some rs[i+k]:=bT a;have:=(C.slot _ _ b).1;rw[C.base b]at this;rw[show i+(k+1)=(i+k)+1 by omega,PW rs _ _ _ b];omega
def Ctx.lt(C:Ctx P call ops M rs a0 J0 cf){i j:Nat}{r s:dM}(hi:rs[i]? =some r)(a:rs[j]? =some s)(h:i<j):r.next<=s.base:=by have b:=(fM.1 a).1;have:=C.mono (j-(i+1)) (i+1) (by omega);rw[PW rs _ _ _ hi,show i+1+(j-(i+1))=j by omega]at this;rw[C.base a];exact this
def Ctx.lo(C:Ctx P call ops M rs a0 J0 cf){i:Nat}{r:dM}(hi:rs[i]? =some r):J0.next+ops.size<=r.base:=by have:=C.mono i 0 (by have:=(fM.1 hi).1;omega);rw[C.base hi];simpa[jO]using this
def Ctx.hi(C:Ctx P call ops M rs a0 J0 cf){i:Nat}{r:dM}(hi:rs[i]? =some r):r.next<=cf:=by have a:=(fM.1 hi).1;have:=C.mono (ops.size-(i+1)) (i+1) (by have:=C.len;omega);rw[PW rs _ _ _ hi,show i+1+(ops.size-(i+1))=ops.size by have:=C.len;omega]at this;rw[C.fin];exact this
def Ctx.Zm(C:Ctx P call ops M rs a0 J0 cf):J0.next+ops.size<=cf:=by have:=C.mono ops.size 0 (by have:=C.len;omega);rw[C.fin];simpa[jO]using this
def sQ.mask(C:sQ ops M rs nn N0){i:Nat}{o:Oper}(b:ops[i]? =some o):M[i]? =some (Bh (λj=>(M.take i).getD j 0) o.after.toList)/\M.length=ops.size:=by obtain⟨a,_,c⟩:=ai1 ops.toList [];have:=c i o (by simpa using b);simp only[kY,lQ]at this a;rw[C.hM];exact⟨this,by simpa using a⟩
def Closed(ops:W5)(D:Nat->Bool):Prop:=∀i o,D i=true->ops[i]? =some o->∀e∈o.after.toList,Region.binds .any e=true->D e.on=true
def sQ.tK(C:sQ ops M rs nn N0){D:Nat->Bool}(k:Closed ops D):∀(i:Nat)(o:Oper),ops[i]? =some o->(∀e∈o.after.toList,Region.binds .any e=true->D e.on=true)->∀j,vY M j i=true->D j=true:=by
 intro i;induction i using Nat.strongRecOn with
 |_ i l=>
  intro o m n j c;obtain⟨p,t⟩:=C.mask m;unfold vY at c;rw[zC,p]at c;obtain⟨e,q,r,h1⟩:=abf c;have a:=n e q r;rcases h1 with rfl|h1
  ·exact a
  ·rw[zC,mg]at h1;split at h1
   ·next d=>
    by_cases f:e.on<ops.size
    ·have b:ops[e.on]? =some ops[e.on]:=by simp[f]
     refine l e.on d ops[e.on] b (λs g h=>k e.on _ a b s g h) j ?_;unfold vY;rw[zC];exact h1
    ·rw[wG (by omega)]at h1;simp at h1
   ·simp at h1
def sQ.abA(C:sQ ops M rs nn N0){i j:Nat}(h:vY M j i=true):j<i:=by
 unfold vY at h;rw[zC]at h;cases b:M[i]? with
 |none=>rw[b]at h;simp at h
 |some m=>rw[b]at h;have a:=ai2 M 0 C.mok i m b;simp only[lQ,rV]at a h;exact Nat.lt_of_not_le λc=>by have:=Nat.testBit_lt_two_pow (yM a (Tn (by omega) c));rw[this]at h;cases h
def sQ.open_(C:sQ ops M rs nn N0){D:Nat->Bool}(c:Closed ops D){i j:Nat}{o:Oper}(k:ops[i]? =some o)(hi:D i=false)(l:∀e∈o.after.toList,Region.binds .any e=true->D e.on=true)
 (m:j<ops.size) (a:D j≠decide (j<i)):zx M i j=true:=by
 have d:i≠j:=by rintro rfl;rw[hi]at a;simp at a
 have n:vY M j i=false:=by
  cases h:vY M j i with
  |false=>rfl
  |true=>have f:=C.tK c i o k l j h;have g:=C.abA h;rw[f]at a;simp[g]at a
 have f:vY M i j=false:=by
  cases h:vY M i j with
  |false=>rfl
  |true=>
   have g:=C.abA h;have p:D j=true:=by
    cases q:D j with
    |true=>rfl
    |false=>rw[q]at a;simp at a;omega
   have b:ops[j]? =some ops[j]:=by simp[m]
   have:=C.tK c j _ b (λe r s=>c j _ p b e r s) i h;rw[this]at hi;cases hi
 unfold zx;rw[Hl d,n,f];rfl
def Qg{l m:Q2}(h:qW l m=true){b:Nat}(a:b∈l):b∉m:=by unfold qW at h;rw[List.all_eq_true]at h;have:=h b a;simpa using this
