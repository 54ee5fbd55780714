/- Regions whose order Go leaves open: the evaluator goes by the text, and looks whether another order could make a difference. -/
import Derived.Test.YtcnekfnipdihgaaGreatDoorAbsE
set_option linter.all false
namespace Go.aP
noncomputable section
variable[iD]
def BI(get:Nat->Nat):List Edge->Nat
 |[]=>0
 |e::es=>if Region.binds .any e then(2^e.on |||get e.on) |||BI get es else BI get es
def ou:List Oper->List Nat->List Nat
 |[],a=>a
 |o::os,a=>ou os (a++[BI (λk=>a.getD k 0) o.after.toList])
def wM(M:Q4)(j i:Nat):Bool:=(M.getD i 0).testBit j
def zJ(M:Q4)(i j:Nat):Bool:=!(Nat.beq i j)&&!(wM M j i)&&!(wM M i j)
def RU:Q4->Nat->Bool
 |[],_=>true
 |m::a,i=>Nat.blt m (2^i)&&RU a (i+1)
def Gn{α:Type}:List (Nat×Option α)->Tr α->Tr α
 |[],t=>t
 |(k,v)::l,t=>Gn l (t.set k v)
def mG{α:Type}(t:Tr α):Q4->Tr α
 |[]=>.nil
 |k::l=>(mG t l).set k (t.get k)
def GZ{α:Type}(t:Tr α):Q4->Tr α
 |[]=>t
 |k::l=>GZ (t.set k none) l
mutual
def AV.under(c:Nat):AV->Bool
 |.p id _=>Nat.blt id c
 |.sl id _ _ _=>Nat.blt id c
 |.mp id=>Nat.blt id c
 |.fn _ fi cs=>AV.qW c fi&&AV.qW c cs
 |.jE _ a=>a.under c
 |.agg l=>AV.qW c l
 |.fG l=>AV.qW c l
 |.ro l=>AV.qW c l
 |.rp a _=>a.under c
 |.sv id _=>Nat.blt id c
 |.pv id _ _=>Nat.blt id c
 |.pd id _=>Nat.blt id c
 |_=>true
def AV.qW(c:Nat):Q6->Bool
 |[]=>true
 |a::l=>a.under c&&AV.qW c l
end
def CS(c:Nat):bM->Bool
 |.cells l _ _ _=>AV.qW c l
 |.iter _ _=>true
 |.map es=>es.all λe=>e.1.under c&&e.2.under c
 |.iterM (some m)=>Nat.blt m c
 |.iterM none=>true
 |.vec _ _ _=>true
 |.smap _ _ _=>true
 |.pmap es=>es.all λe=>e.2.under c
def Qh(c:Nat)(h:Tr bM):Q4->Bool
 |[]=>true
 |k::l=>Nat.blt k c&&(match h.get k with|some o=>CS c o|none=>true)&&Qh c h l
def MV(c:Nat)(t:Tr AV):Q4->Bool
 |[]=>true
 |k::l=>(match t.get k with|some v=>v.under c|none=>true)&&MV c t l
structure dX where
 slot:List (Nat×Qf)
 upd:YY
 vis:Option Q4
 loc:Q4
 base:Nat
 next:Nat
 fin:Option aC:=none
abbrev Wo:=List dX
inductive Cls where
 |na (vis:Q4)
 |wr (w:Q4)
 |sa (w:Q4)
 |ca
def awd:AV->List Nat
 |.p id _=>[id]
 |.sl id _ _ _=>[id]
 |.mp id=>[id]
 |.sv id _=>[id]
 |.pv id _ _=>[id]
 |.pd id _=>[id]
 |_=>[]
def zx(b:QR)(x:Operand):Q4:=match b x with|some a=>awd a|none=>[]
def agd(o:Oper)(b:QR):Cls:=
 match o.op with
 |.load _ a=>.na (zx b a)
 |.indexAddr _ x _=>.na (zx b x)
 |.store _ a _=>.wr (zx b a)
 |.box .. |.buildSlice .. |.makeSlice .. |.makeMap ..=>.sa []
 |.convert _ _ x=>.sa (zx b x)
 |.slice _ x _ _ _=>.na (zx b x)
 |.lookup _ m _ _=>.na (zx b m)
 |.mapUpdate _ m _ _|.insert _ m _ _=>.wr (zx b m)
 |.range _ x=>.sa (zx b x)
 |.next d _=>.wr (zx b d)
 |.call c=>match c.callee with
  |.builtin .len=>.na (c.args.toList.flatMap (zx b))
  |.builtin .append|.builtin .copy|.builtin .clear=>.sa (c.args.toList.flatMap (zx b))
  |.builtin .unsafeSliceData=>.na (c.args.toList.flatMap (zx b))
  |.builtin .unsafeString=>.wr (c.args.toList.flatMap (zx b))
  |.builtin _=>.na []
  |_=>.ca
 |_=>.na []
def vW:Nat:=2^64
def sW(o:Oper)(v:Qf):List (Nat×Qf):=match o.dst with|some d=>[(d,v)]|none=>[]
def G9(τ:aC):Nat->Nat->List (Nat×Option bM)
 |_,0=>[]
 |c,n+1=>(c,match τ.get c with|some o=>if o.own then some o else none|none=>none)::G9 τ (c+1) n
def keysOf{α:Type}(l:List (Nat×Option α)):Q4:=l.map (·.1)
def EZ(M:Q4)(i:Nat):Wo->Nat->List Nat
 |[],_=>[]
 |r::rs,j=>if zJ M i j then keysOf r.upd++EZ M i rs (j+1)else EZ M i rs (j+1)
def RN(M:Q4)(i:Nat):Wo->Nat->List Nat
 |[],_=>[]
 |r::rs,j=>if zJ M i j then RN M i rs (j+1)else keysOf r.upd++RN M i rs (j+1)
def KI(h:Tr bM)(a:Nat)(l:Q4):Q4:=l.filter λk=>Nat.ble a k&&(match h.get k with|some o=>o.own|none=>false)
mutual
def MR:AV->List Nat
 |.p id _|.sl id _ _ _|.mp id|.sv id _|.pv id _ _|.pd id _=>[id]
 |.fn _ fs cs=>MS fs++MS cs
 |.jE _ v=>MR v
 |.agg l=>MS l
 |.fG l=>MS l
 |_=>[]
def MS:Q6->List Nat
 |[]=>[]
 |a::l=>MR a++MS l
end
def ayf:bM->List Nat
 |.cells l _ _ _=>MS l
 |.map es=>es.flatMap λe=>MR e.1++MR e.2
 |.pmap es=>es.flatMap λe=>MR e.2
 |.iterM (some m)=>[m]
 |_=>[]
def adg(h:Tr bM):Nat->List Nat->List Nat->List Nat
 |0,_,seen=>seen
 |_+1,[],seen=>seen
 |f+1,k::a,seen=>bif seen.contains k then adg h f a seen else adg h f ((match h.get k with|some o=>ayf o|none=>[])++a) (k::seen)
def SQ(o:Oper)(a:QR)(h:Tr bM):Q4:=
 adg h 1000 (o.op.operands.toList.flatMap λx=>match a x with|some v=>MR v|none=>[]) []
def axp(ops:W7)(j:Nat):Bool:=match ops[j]? with
 |some o=>match o.op with
  |.buildSlice .. |.makeSlice .. |.makeMap ..=>true
  |_=>false
 |none=>false
def awK(ops:W7)(M:Q4)(i:Nat):Bool:=(List.range ops.size).any λj=>Nat.blt i j&&axp ops j&&zJ M i j
def amE{α:Type}(b:Bool)(x:Unit->Option α):Option α:=bif b then none else x ()
def aE6{α:Type}{b:Bool}{x:Unit->Option α}{y:α}(h:amE b x=some y):x ()=some y:=by
 cases b with
 |true=>cases h
 |false=>exact h
def CW(P:Program)(call:Caller)(ops:W7)(M:Q4)(N0 lock gn n:Nat)(b:Wo)(i:Nat)(t:Tr AV)(h:Tr bM)(c:Nat):Option dX:=
 match ops[i]? with
 |none=>none
 |some o=>
  let a:bK:={t:=mG t (o.looksAt ops),n:=n,gn:=gn}
  match LH o ops a with
  |none=>none
  |some false=>some {slot:=sW o (some (.fG [])),upd:=[],vis:=some [],loc:=[],base:=c,next:=c}
  |some true=>
   match o.op with
   |.alloc d=>match Aw P d with
    |some z=>some {slot:=sW o (some (.p (N0+i) 0)),upd:=[(N0+i,some (.cells z d true false))],vis:=some [],loc:=[],base:=c,next:=c}
    |none=>none
   |_=>
    match agd o a.eval with
    |.na l=>
     match Bj P call o a.eval {h:=mG h l,next:=vW,lock:=vW}with
     |some (v,τ)=>if Nat.beq τ.next vW then some {slot:=sW o v,upd:=[],vis:=some l,loc:=[],base:=c,next:=c}else none
     |none=>none
    |.wr l=>
     match Bj P call o a.eval {h:=mG h l,next:=vW,lock:=lock}with
     |some (v,τ)=>if Nat.beq τ.next vW then some {slot:=sW o v,upd:=(KI h lock l).map λk=>(k,τ.get k),vis:=some l,loc:=[],base:=c,next:=c}else none
     |none=>none
    |.sa l=>
     if MV c t (o.looksAt ops)&&Qh c h l then
      match Bj P call o a.eval {h:=mG h l,next:=c,lock:=lock}with
      |some (v,τ)=>some {slot:=sW o v,upd:=((KI h lock l).map λk=>(k,τ.get k))++G9 τ c (τ.next-c),vis:=some l,loc:=[],base:=c,next:=τ.next}
      |none=>none
     else none
    |.ca=>
     match amE (awK ops M i) (λ_=>Bj P call o a.eval {h:=GZ h (EZ M i b 0),next:=c,lock:=c})with
     |some (v,τ)=>some {slot:=sW o v,upd:=G9 τ c (τ.next-c),vis:=none,loc:=RN M i b 0,base:=c,next:=τ.next}
     |none=>
      if MV c t (o.looksAt ops)&&Qh c h (SQ o a.eval h)then
       match Bj P call o a.eval {h:=mG h (SQ o a.eval h),next:=c,lock:=lock}with
       |some (v,τ)=>some {slot:=sW o v,upd:=((KI h lock (SQ o a.eval h)).map λk=>(k,τ.get k))++G9 τ c (τ.next-c),vis:=some (SQ o a.eval h),loc:=[],base:=c,next:=τ.next}
       |none=>none
      else none
def ED(o:Oper):Bool:=match o.op with
 |.move _|.assign _|.binOp .. |.extract ..=>true
 |_=>false
def pq(ops:W7)(i:Nat):Bool:=match ops[i]? with|some o=>ED o|none=>false
def YE(ops:W7)(M:Q4):Nat->Nat
 |0=>0
 |k+1=>if(pq ops k ||(List.range k).all λj=>pq ops j ||wM M j k)=true then YE ops M k else k+1
def pI(ops:W7)(M:Q4)(i:Nat):Bool:=Nat.ble (YE ops M ops.size) i&&!(pq ops i)
def xQ:Wo->aC->aC
 |[],J=>J
 |r::rs,J=>xQ rs (match r.fin with|some τ=>τ|none=>J)
def Ns(P:Program)(call:Caller)(ops:W7)(lock gn n:Nat)(a:Wo)(i:Nat)(t:Tr AV)(h:Tr bM)(c:Nat):Option dX:=
 match ops[i]? with
 |none=>none
 |some o=>
  match LH o ops {t:=mG t (o.looksAt ops),n:=n,gn:=gn}with
  |none=>none
  |some false=>some {slot:=sW o (some (.fG [])),upd:=[],vis:=some [],loc:=[],base:=c,next:=c,fin:=some (xQ a {h:=h,next:=c,lock:=lock})}
  |some true=>match Bj P call o (bK.eval {t:=mG t (o.looksAt ops),n:=n,gn:=gn}) (xQ a {h:=h,next:=c,lock:=lock})with
   |some (v,τ)=>some {slot:=sW o v,upd:=[],vis:=some [],loc:=[],base:=c,next:=c,fin:=some τ}
   |none=>none
def zk(P:Program)(call:Caller)(ops:W7)(M:Q4)(N0 a d n:Nat)(b:Wo)(i:Nat)(t:Tr AV)(h:Tr bM)(c:Nat):Option dX:=
 if pI ops M i=true then Ns P call ops a d n b i t h c else CW P call ops M N0 a d n b i t h c
def QG(P:Program)(call:Caller)(ops:W7)(M:Q4)(N0 b d n:Nat):Nat->List dX->Nat->Tr AV->Tr bM->Nat->Option (Wo×Tr AV×Tr bM×Nat)
 |0,a,_,t,h,c=>some (a,t,h,c)
 |m+1,a,i,t,h,c=>
  match zk P call ops M N0 b d n a i t h c with
  |none=>none
  |some r=>QG P call ops M N0 b d n m (a++[r]) (i+1) (Gn r.slot t) (Gn r.upd h) r.next
def rF(l m:Q4):Bool:=l.all λk=>!(m.contains k)
def SC(ops:W7)(N0:Nat)(i j:Nat)(r s:dX):Bool:=
 let a:=keysOf s.upd
 rF (keysOf r.slot) (keysOf s.slot)&&
 (match ops[i]? with|some o=>rF (o.looksAt ops) (keysOf s.slot)|none=>false)&&
 rF (keysOf r.upd) a&&
 (match r.vis with
  |some l=>rF l a
  |none=>Nat.blt j i ||(a.all (Nat.ble N0 ·)&&rF r.loc a&&Nat.beq s.base s.next))
def al4(ops:W7)(i j:Nat):Bool:=
 match ops[i]?,ops[j]? with
 |some o,some b=>
  match b.dst with
  |none=>true
  |some a=>(match o.dst with|some d=>!(Nat.beq d a)|none=>true)&&!((o.looksAt ops).contains a)
 |_,_=>false
def adE(ops:W7)(M:Q4):Bool:=
 (List.range ops.size).all λi=>(List.range ops.size).all λj=>!(zJ M i j) ||al4 ops i j
def VE(N0 i j:Nat)(r s:dX):Bool:=
 rF (keysOf r.upd) (keysOf s.upd)&&
 (match r.vis with
  |some l=>rF l (keysOf s.upd)
  |none=>Nat.blt j i ||((keysOf s.upd).all (Nat.ble N0 ·)&&rF r.loc (keysOf s.upd)&&Nat.beq s.base s.next))
def aax(M:Q4)(N0:Nat)(rs:Wo):Bool:=
 rs.zipIdx.all λ(s,j)=>(s.upd.isEmpty&&Nat.beq s.base s.next) ||rs.zipIdx.all λ(r,i)=>!(zJ M i j) ||VE N0 i j r s
def agL(l:Q4):rF l []=true:=by unfold rF;simp
def ayR{ops:W7}{M:Q4}{N0:Nat}{rs:Wo}(a:adE ops M=true)(b:aax M N0 rs=true)(x:∀(i:Nat) r,rs[i]? =some r->∃o v,ops[i]? =some o/\r.slot=sW o v):
 ∀(i j:Nat) r s,rs[i]? =some r->rs[j]? =some s->zJ M i j=true->SC ops N0 i j r s=true:=by
 intro i j r s y z A;obtain⟨o,v,m,n⟩:=x i r y;obtain⟨E,J,f,p⟩:=x j s z;have q:i<ops.size:=(rX.1 m).1;have t:j<ops.size:=(rX.1 f).1;unfold adE at a;rw[List.all_eq_true]at a;have B:=a i (by simpa using q);rw[List.all_eq_true]at B;have c:=B j (by simpa using t);rw[A]at c;simp only[Y3,AA,al4,m,f]at c;have h:VE N0 i j r s=true:=by
  unfold aax at b;rw[List.all_eq_true]at b;have g:=b (s,j) (by rw[anf];simpa using z);simp only[oV,aO]at g;rcases g with⟨l,F⟩|g
  ·have G:s.upd=[]:=by simpa using l
   unfold VE;rw[G];simp only[keysOf,jU,agL,aez,F,Bool.and_self,Bool.or_true];cases r.vis<;>rfl
  ·rw[List.all_eq_true]at g;have l:=g (r,i) (by rw[anf];simpa using y);simp only[A,Y3,AA]at l;exact l
 unfold VE at h;rw[aO]at h;unfold SC;rw[m];simp only[n,p,h.1,h.2,TU];unfold sW;cases u:E.dst with
 |none=>simp[keysOf,agL]
 |some D=>
  rw[u]at c;simp only[aO]at c;rw[aO];constructor
  ·cases H:o.dst with
   |none=>simp[keysOf,rF]
   |some d=>
    rw[H]at c;have:=c.1;simp only[keysOf,iU,jU,rF,qZ,aez,TU,wU]at this⊢;rw[List.contains_cons];simp only[List.contains_nil,LM];cases w:d==D with
    |false=>rfl
    |true=>have e:=eq_of_beq w;subst e;simp at this
  ·have:=c.2;simp only[keysOf,iU,jU,rF,List.all_eq_true,wU]at this⊢;intro k I;rw[List.contains_cons];simp only[List.contains_nil,LM];cases w:k==D with
   |false=>rfl
   |true=>have e:=eq_of_beq w;subst e;rw[aeD.2 I]at this;cases this
def alX(n:Nat)(rs:Wo):Bool:=rs.all λr=>Nat.ble r.base r.next&&r.slot.all λp=>Nat.blt p.1 n
def Zt(P:Program)(call:Caller)(ops:W7)(a:bK)(J:aC):Option (bK×aC):=
 let M:=ou ops.toList []
 let N0:=J.next
 if RU M 0&&Nat.ble J.lock J.next then
  match QG P call ops M N0 J.lock a.gn a.n ops.size [] 0 a.t J.h (N0+ops.size)with
  |some (rs,t,h,c)=>
   if adE ops M&&aax M N0 rs&&alX a.n rs&&Nat.ble c vW then
    some ({a with t:=t},xQ rs {h:=h,next:=c,lock:=J.lock})
   else none
  |none=>none
 else none
def Zr(P:Program)(call:Caller)(ops:W7)(a:bK)(J:aC):Option (bK×aC):=
 Zt P call ops a J
end
noncomputable section
variable[aJ]
def H8{a b:Nat}(h:a≠b):Nat.beq a b=false:=by
 cases e:Nat.beq a b with
 |false=>rfl
 |true=>exact absurd (bQ e) h
section
variable{α:Type}
def gQ:List (Nat×Option α)->Nat->Option (Option α)
 |[],_=>none
 |(k,v)::l,b=>match gQ l b with
  |some x=>some x
  |none=>if b=k then some v else none
def aaR:∀(l:List (Nat×Option α))(t:Tr α)(b:Nat),(Gn l t).get b=(gQ l b).getD (t.get b)
 |[],t,b=>rfl
 |(k,v)::l,t,b=>by
  rw[Gn,aaR l,gQ];cases gQ l b with
  |some x=>rfl
  |none=>simp only[uS,Tr.wE];split<;>rfl
def Ah:∀(l:List (Nat×Option α))(b:Nat),gQ l b≠none↔b∈keysOf l
 |[],b=>by simp[gQ,keysOf]
 |(k,v)::l,b=>by
  have a:=Ah l b;simp only[keysOf,iU,bJ]at a⊢;rw[gQ];cases h:gQ l b with
  |some x=>rw[h]at a;simp only[ne_eq,reduceCtorEq,not_false_eq_true,true_iff]at a;simp[a]
  |none=>rw[h]at a;simp only[ne_eq,not_true_eq_false,false_iff]at a;simp only[a,or_false];split<;>simp_all
def RP{l:List (Nat×Option α)}{b:Nat}(h:b∉keysOf l):gQ l b=none:=by
 cases a:gQ l b with
 |none=>rfl
 |some x=>exact absurd ((Ah l b).1 (by rw[a];simp)) h
def nH:List (List (Nat×Option α))->Nat->(Nat->Bool)->Nat->Option (Option α)
 |[],_,_,_=>none
 |u::a,k,D,b=>match nH a (k+1) D b with
  |some x=>some x
  |none=>if D k=true then gQ u b else none
def lg:List (List (Nat×Option α))->Nat->(Nat->Bool)->Tr α->Tr α
 |[],_,_,t=>t
 |u::a,k,D,t=>lg a (k+1) D (if D k=true then Gn u t else t)
def EH:∀(a:List (List (Nat×Option α)))(k:Nat)(D:Nat->Bool)(t:Tr α)(b:Nat),(lg a k D t).get b=(nH a k D b).getD (t.get b)
 |[],_,_,_,_=>rfl
 |u::a,k,D,t,b=>by
  rw[lg,EH a,nH];cases nH a (k+1) D b with
  |some x=>rfl
  |none=>
   simp only[uS];split
   ·rw[aaR]
   ·rfl
def jP:List (List (Nat×Option α))->Tr α->Tr α
 |[],t=>t
 |u::a,t=>jP a (Gn u t)
def Oc:∀(a:List (List (Nat×Option α)))(k:Nat)(D E:Nat->Bool)(b:Nat),(∀(j:Nat) u,a[j]? =some u->D (k+j)≠E (k+j)->gQ u b=none)->nH a k D b=nH a k E b
 |[],_,_,_,_,_=>rfl
 |u::a,k,D,E,b,h=>by
  have f:=Oc a (k+1) D E b (λj v g c=>h (j+1) v (by simpa using g) (by rw[(ah:k+(j+1)=k+1+j)];exact c));have d:=h 0 u aA;rw[nH,nH,f];cases nH a (k+1) E b with
  |some x=>rfl
  |none=>
   simp only[oW]at d;by_cases e:D k=E k
   ·rw[e]
   ·rw[d e];simp
def awI(a:List (List (Nat×Option α)))(k:Nat)(D:Nat->Bool)(b:Nat)(h:∀j,j<a.length->D (k+j)=false):nH a k D b=none:=by
 induction a generalizing k with
 |nil=>rfl
 |cons u a c=>rw[nH,c (k+1) (λj d=>by rw[(ah:k+1+j=k+(j+1))];exact h (j+1) (by simpa using d))];have:=h 0 aA;simp only[oW]at this;simp[this]
def abC:∀(a:List (List (Nat×Option α)))(k:Nat)(D:Nat->Bool)(b:Nat)(x:Option α),nH a k D b=some x->∃(j:Nat)(u:List (Nat×Option α)),a[j]? =some u/\D (k+j)=true/\gQ u b=some x
 |[],_,_,_,_,h=>by simp[nH]at h
 |u::a,k,D,b,x,h=>by
  rw[nH]at h;split at h
  ·next y c=>
   cases h;obtain⟨j,v,h1,d,e⟩:=abC a (k+1) D b _ c;exact⟨j+1,v,by simpa using h1,by rw[(ah:k+(j+1)=k+1+j)];exact d,e⟩
  ·split at h
   ·next f=>exact⟨0,u,aA,by simpa using f,h⟩
   ·cases h
def NM:∀(a:List (List (Nat×Option α)))(i k:Nat)(t:Tr α)(b:Nat),(jP (a.take i) t).get b=(nH a k (λj=>decide (j<k+i)) b).getD (t.get b)
 |[],i,k,t,b=>by simp[jP,nH]
 |u::a,0,k,t,b=>by rw[awI _ _ _ _ (λj _=>aA)];rfl
 |u::a,i+1,k,t,b=>by
  have c:=NM a i (k+1) (Gn u t) b;simp only[AQ,jP];rw[c,nH];have:(λj=>decide (j<k+1+i))=λj=>decide (j<k+(i+1)):=by funext j;congr 1;apply propext;omega
  rw[this];cases nH a (k+1) (λj=>decide (j<k+(i+1))) b with
  |some x=>rfl
  |none=>simp only[uS];rw[au aA,aaR]
def abB:∀(a:List (List (Nat×Option α)))(k i:Nat)(D:Nat->Bool)(b:Nat)(u:List (Nat×Option α)),a[i]? =some u->D (k+i)=false->
 (∀(j:Nat) v,a[j]? =some v->i<j->D (k+j)=true->gQ u b≠none->gQ v b=none)->
 nH a k (λj=>D j ||Nat.beq j (k+i)) b=match gQ u b with|some x=>some x|none=>nH a k D b
 |[],_,_,_,_,_,h,_,_=>by simp at h
 |v::a,k,0,D,b,u,h,d,c=>by
  simp at h;subst h;have tail:nH a (k+1) (λj=>D j ||Nat.beq j (k+0)) b=nH a (k+1) D b:=by refine Oc _ _ _ _ _ λj w l g=>?_;exfalso;apply g;have:Nat.beq (k+1+j) (k+0)=false:=H8 ah;simp only[this,LM]
  simp only[nH,tail];simp only[oW]at d⊢;have m:Nat.beq k k=true:=aA;cases f:gQ v b with
  |none=>simp[m,d,f]
  |some x=>
   have:nH a (k+1) D b=none:=by
    cases p:nH a (k+1) D b with
    |none=>rfl
    |some y=>obtain⟨j,w,q,r,n⟩:=abC _ _ _ _ _ p;have:=c (j+1) w (by simpa using q) ah (by rw[(ah:k+(j+1)=k+1+j)];exact r) (by rw[f];simp);rw[this]at n;cases n
   simp[this,m,f]
 |v::a,k,i+1,D,b,u,h,d,c=>by
  have o:=abB a (k+1) i D b u (by simpa using h) (by rw[(ah:k+1+i=k+(i+1))];exact d) (λj w l s t=>c (j+1) w (by simpa using l) ah (by rw[(ah:k+(j+1)=k+1+j)];exact t));have e:(λj=>D j ||Nat.beq j (k+1+i))=λj=>D j ||Nat.beq j (k+(i+1)):=by funext j;congr 2;omega
  rw[e]at o;simp only[nH,o];have z:Nat.beq k (k+(i+1))=false:=H8 ah;cases f:gQ u b with
  |some x=>simp
  |none=>simp[z]
def Df(t:Tr α):∀(l:Q4)(b:Nat),(mG t l).get b=if b∈l then t.get b else none
 |[],b=>by simp[mG]
 |k::l,b=>by
  rw[mG,Tr.wE,Df t l];by_cases e:b=k
  ·subst e;simp
  ·simp[e]
def ahO:∀(l:Q4)(t:Tr α)(b:Nat),(GZ t l).get b=if b∈l then none else t.get b
 |[],t,b=>by simp[GZ]
 |k::l,t,b=>by
  rw[GZ,ahO l,Tr.wE];by_cases e:b=k
  ·subst e;simp
  ·simp[e]
end
def abM{get:Nat->Nat}{j:Nat}:∀{es:List Edge},(BI get es).testBit j=true->∃e∈es,Region.binds .any e=true/\(j=e.on\/(get e.on).testBit j=true)
 |[],h=>by simp[BI]at h
 |e::es,h=>by
  rw[BI]at h;split at h
  ·next d=>
   rw[Um,Um,oV,oV,Nat.testBit_two_pow]at h;rcases h with(h|h)|h
   ·exact⟨e,aA,d,.inl (Du h).symm⟩
   ·exact⟨e,aA,d,.inr h⟩
   ·obtain⟨a,h1,b,c⟩:=abM h;exact⟨a,by simp[h1],b,c⟩
  ·obtain⟨a,h1,b,c⟩:=abM h;exact⟨a,by simp[h1],b,c⟩
def ajv:∀(os:List Oper)(a:Q4),(ou os a).length=a.length+os.length/\(∀k,k<a.length->(ou os a)[k]? =a[k]?)/\
 ∀(k:Nat) o,os[k]? =some o->(ou os a)[a.length+k]? =some (BI (λj=>((ou os a).take (a.length+k)).getD j 0) o.after.toList)
 |[],a=>by simp[ou]
 |o::os,a=>by
  obtain⟨h1,b,e⟩:=ajv os (a++[BI (λk=>a.getD k 0) o.after.toList]);rw[ou];simp only[dM,ig,kF]at h1 b e;refine⟨by simp only[ig];omega,λk f=>?_,λk g c=>?_⟩
  ·rw[b k ah,oG f]
  ·cases k with
   |zero=>
    simp at c;subst c;rw[oW,b a.length ah,xW (dK _)];simp only[Ci,kQ];congr 2;funext j;by_cases d:j<a.length
    ·rw[zN,zN,mW,au d,b j ah,oG d]
    ·rw[zN,zN,mW,aj d,wV ah]
   |succ k=>have:=e k g (by simpa using c);rw[(ah:a.length+1+k=a.length+(k+1))]at this;exact this
def ajw:∀(M:Q4)(k:Nat),RU M k=true->∀(j m:Nat),M[j]? =some m->m<2^(k+j)
 |[],_,_,j,m,h=>by simp at h
 |x::M,k,h,j,m,a=>by
  simp only[RU,aO]at h;cases j with
  |zero=>simp at a;subst a;have b:=h.1;rw[jM]at b;simpa using b
  |succ j=>have:=ajw M (k+1) h.2 j m (by simpa using a);rw[(ah:k+(j+1)=k+1+j)];exact this
end
noncomputable section
variable[aJ]
variable{P:Program}
def Zu{F:Env}{τ τ':aC}{w:World}(h:SR P F τ w){call:Caller}(d:tN P call){o:Oper}{a:bK}{A:Act}(j:TR P F a A){r:Qf}{K:Act->World->Prop}{Q:Exit->Act->World->Prop}
 (k:xq P call o a.eval τ=some (r,τ')) (i:∀x F' w',St P F τ w F' τ' w'->(∀v,r=some v->VR F' v x)->K (A.put o.dst x) w'):o.wp P A w K Q:=by
 cases l:Hl o.op with
 |true=>refine afX h d j l k λv x F' w' m b e=>i x F' w' b λu g=>by rw[m]at g;cases g;exact e
 |false=>
  obtain⟨n,w',F',f,b,c⟩:=aj3 h (λx v e=>QS h j x v e) l k;unfold Oper.wp;rw[f];cases r with
  |none=>subst c;exact i undef F' w' b aA
  |some v=>obtain⟨x,rfl,e⟩:=c;exact i x F' w' b (λu g=>by cases g;exact e)
def Env.cut(F:Env)(c:Nat):Env:=⟨λid=>if id<c then F id else none,F.ro,λid=>decide (id<c)&&F.gh id⟩
def Env.Nr(F:Env)(c:Nat):(F.cut c).le F:=⟨λid q h=>(by
 simp only[Env.cut]at h;split at h
 ·exact h
 ·cases h),λ_ _ h=>h,λ_ h=>(aO _ _▸h:_/\_).2⟩
def Env.agy{F:Env}{c id:Nat}(h:id<c)(a:F.gh id=true):(F.cut c).gh id=true:=by simp[Env.cut,h,a]
mutual
def VR.cut{F:Env}{c:Nat}:∀(a:AV)(v:Value),a.under c=true->VR F a v->VR (F.cut c) a v
 |.b _,_,_,b=>by simpa only[VR]using b
 |.i _ _,_,_,b=>by simpa only[VR]using b
 |.s _,_,_,b=>by simpa only[VR]using b
 |.kC,_,_,b=>by simpa only[VR]using b
 |.p id _,_,d,b=>by simp only[VR]at b⊢;obtain⟨q,h,e⟩:=b;simp only[AV.under,jM]at d;exact⟨q,by simp only[Env.cut];rw[au d];exact h,e⟩
 |.gX,_,_,b=>by simpa only[VR]using b
 |.sl id _ _ _,_,d,b=>by simp only[VR]at b⊢;obtain⟨q,h,e⟩:=b;simp only[AV.under,jM]at d;exact⟨q,by simp only[Env.cut];rw[au d];exact h,e⟩
 |.qQ,_,_,b=>by simpa only[VR]using b
 |.mp id,_,d,b=>by simp only[VR]at b⊢;obtain⟨q,h,e⟩:=b;simp only[AV.under,jM]at d;exact⟨q,by simp only[Env.cut];rw[au d];exact h,e⟩
 |.Ai,_,_,b=>by simpa only[VR]using b
 |.fn _ w o,_,d,b=>by simp only[VR]at b⊢;simp only[AV.under,aO]at d;obtain⟨t,u,e,f,g⟩:=b;exact⟨t,u,e,aG.cut w t d.1 f,aG.cut o u d.2 g⟩
 |.vF,_,_,b=>by simpa only[VR]using b
 |.jE _ a,_,d,b=>by simp only[VR]at b⊢;simp only[AV.under]at d;obtain⟨x,e,f⟩:=b;exact⟨x,e,VR.cut a x d f⟩
 |.agg l,_,d,b=>by simp only[VR]at b⊢;simp only[AV.under]at d;obtain⟨x,e,f⟩:=b;exact⟨x,e,aG.cut l x d f⟩
 |.fG l,_,d,b=>by simp only[VR]at b⊢;simp only[AV.under]at d;obtain⟨x,e,f⟩:=b;exact⟨x,e,aG.cut l x d f⟩
 |.z _ _ _,_,_,b=>by simpa only[VR]using b
 |.ro l,_,d,b=>by
  simp only[VR]at b⊢;simp only[AV.under]at d;rcases b with b|⟨r,s,y,j,z,e,A,f,g,m⟩
  ·exact .inl b
  right;exact⟨r,s,y,j,z,e,A,aG.cut l j d f,g,m⟩
 |.rp a _,_,d,b=>by simp only[VR]at b⊢;simp only[AV.under]at d;obtain⟨r,base,o,n,B,x,f,g,m⟩:=b;exact⟨r,base,o,n,B,x,f,VR.cut a x d g,m⟩
 |.nd _,_,_,b=>by simp only[VR]at b⊢;exact b
 |.rx _ _,_,_,b=>by simp only[VR]at b⊢;exact b
 |.sv id _,_,d,b=>by
  simp only[VR]at b⊢;simp only[AV.under,jM]at d;obtain⟨j,f,⟨q,h,g⟩|g⟩:=b
  ·exact⟨j,f,.inl ⟨q,by simp only[Env.cut];rw[au d];exact h,g⟩⟩
  ·exact⟨j,f,.inr ⟨Env.agy d g.1,g.2⟩⟩
 |.pv id _ _,_,d,b=>by simp only[VR]at b⊢;simp only[AV.under,jM]at d;obtain⟨q,k,i,h,g⟩:=b;exact⟨q,k,i,by simp only[Env.cut];rw[au d];exact h,g⟩
 |.pd id _,_,d,b=>by simp only[VR]at b⊢;simp only[AV.under,jM]at d;obtain⟨j,p,f,g,m⟩:=b;exact⟨j,p,f,g,λD=>by obtain⟨q,h,E⟩:=m D;exact⟨q,by simp only[Env.cut];rw[au d];exact h,E⟩⟩
def aG.cut{F:Env}{c:Nat}:∀(l:Q6)(vs:Qt),AV.qW c l=true->aG F l vs->aG (F.cut c) l vs
 |[],_,_,b=>by simpa only[aG]using b
 |a::l,_,d,b=>by simp only[aG]at b⊢;simp only[AV.qW,aO]at d;obtain⟨x,xs,e,h1,f⟩:=b;exact⟨x,xs,e,VR.cut a x d.1 h1,aG.cut l xs d.2 f⟩
end
def amD{c:Nat}:∀{l:Q6}{k:Nat}{a:AV},AV.qW c l=true->l[k]? =some a->a.under c=true
 |[],k,a,_,h=>by simp at h
 |x::l,k,a,b,h=>by
  simp only[AV.qW,aO]at b;cases k with
  |zero=>simp at h;subst h;exact b.1
  |succ k=>exact amD b.2 (by simpa using h)
def OR.cut{F:Env}{c:Nat}{q:Place}{w:World}{o:bM}(j:CS c o=true)(h:OR P F q w o):OR P (F.cut c) q w o:=by
 cases o with
 |cells l G rw H=>obtain⟨v,d,y,i,r⟩:=h;exact⟨v,d,y,i,{r with cell:=λk a g=>by obtain⟨x,I,J⟩:=r.cell k a g;exact⟨x,I,VR.cut a x (amD j g) J⟩}⟩
 |iter s pos=>exact h
 |map es=>obtain⟨z,b,i,p,u⟩:=h;refine⟨z,b,i,p,λk e g=>?_⟩;obtain⟨m,A,B,D⟩:=u k e g;simp only[CS,List.all_eq_true,aO]at j;have:=j e (sD g);exact⟨m,A,VR.cut _ _ this.1 B,VR.cut _ _ this.2 D⟩
 |iterM m=>
  cases m with
  |none=>exact h
  |some m=>obtain⟨L,t,last,N,i,p⟩:=h;simp only[CS,jM]at j;exact⟨L,t,last,N,by simp only[Env.cut];rw[au j];exact i,p⟩
 |smap n Y Z=>exact h
 |pmap es=>obtain⟨O,z,b,E,i,Q,p,u⟩:=h;refine⟨O,z,b,E,i,Q,p,λk e g=>?_⟩;obtain⟨m,A,B,D⟩:=u k e g;simp only[CS,List.all_eq_true]at j;exact⟨m,A,B,VR.cut _ _ (j e (sD g)) D⟩
 |vec n G f=>obtain⟨R,v,d,y,S,i,p,u,T,U,W,r,X⟩:=h;exact⟨R,v,d,y,S,i,p,u,T,U,W,{r with cell:=λk a g=>by simp at g},X⟩
def St.merge{F Z uM F':Env}{J J' τ τ':aC}{w w':World}{upd:YY}(v:SR P F J w)(Wv:SR P Z τ w)(a:St P Z τ w uM τ' w')(sub:∀id o,τ.get id=some o->J.get id=some o)(hi:Z.le F)(aa:Z.ro=F.ro)(WG:F'.ro=uM.ro)
 (h1:F.le F') (h2:uM.le F') (hg:∀b,J'.get b=(gQ upd b).getD (J.get b))
 (U:∀b o,gQ upd b=some (some o)->τ'.get b=some o/\((∃o0,τ.get b=some o0/\o0.own=true)\/(o.own=true/\τ.get b=none)))
 (O7:∀id o,τ.get id=some o->o.own=true->τ.lock<=id->gQ upd id≠none) (L:J.lock<=τ.lock) (EK:∀b,gQ upd b≠none->τ.lock<=b)
 (ac:∀id q,F' id=some q->id<J'.next) (N:∀id,F'.gh id=true->F' id=none/\id<J'.next):
 SR P F' J' w'/\w.heap.size<=w'.heap.size/\
 (∀bl,bl<w.heap.size->(∀id o q,J.get id=some o->o.own=true->J.lock<=id->F id=some q->q.bl≠bl)->w'.heap[bl]? =w.heap[bl]?)/\
 (∀id o q,J'.get id=some o->o.own=true->J.lock<=id->F' id=some q->w.heap.size<=q.bl\/∃d o0 i,J.get d=some o0/\o0.own=true/\J.lock<=d/\F d=some i/\i.bl=q.bl)/\
 (∀b,F'.ro b≠none->F.ro b≠none\/w.heap.size<=b\/∃d o0 i,J.get d=some o0/\o0.own=true/\J.lock<=d/\F d=some i/\i.bl=b):=by
 have O:∀b o q,gQ upd b=none->J.get b=some o->F b=some q->q.bl<w.heap.size->w'.heap[q.bl]? =w.heap[q.bl]?:=by intro b o q s n I ad;refine a.keep _ ad ?_;intro id o2 q2 y l z A;have ae:id≠b:=λe=>O7 id o2 y l z (by rw[e];exact s);exact v.sep id o2 b o q2 q (sub _ _ y) l n ae (hi.pl _ _ A) I
 have c:∀b o q,gQ upd b=some (some o)->F' b=some q->OR P F' q w' o/\uM b=some q:=by
  intro b o q s j;rcases a.rel.live b o (U b o s).1 with⟨p,Q,R⟩|⟨t,_⟩
  ·have:=h2.pl _ _ Q;rw[j]at this;cases this;exact⟨R.mono h2,Q⟩
  ·rw[(N b (h2.gh b t)).1]at j;cases j
 have m:∀id o q,J.get id=some o->F' id=some q->F id=some q/\OR P F q w o:=by
  intro id o q n j;rcases v.live id o n with⟨p,Q,R⟩|⟨t,_⟩
  ·have:=h1.pl _ _ Q;rw[j]at this;cases this;exact⟨Q,R⟩
  ·rw[(N id (h1.gh id t)).1]at j;cases j
 have S:∀b o q,gQ upd b=some (some o)->uM b=some q->(w.heap.size<=q.bl)\/(∃d o0 i,τ.get d=some o0/\o0.own=true/\τ.lock<=d/\Z d=some i/\i.bl=q.bl):=by
  intro b o q s I;obtain⟨h4,W⟩:=U b o s;rcases W with⟨o0,h6,h7⟩|⟨h6,h7⟩
  ·rcases Wv.live b o0 h6 with⟨p',ab,_⟩|⟨t,_⟩
   ·have:=a.ext.pl _ _ ab;rw[I]at this;cases this;exact .inr ⟨b,o0,q,h6,h7,EK b (by rw[s];simp),ab,rfl⟩
   ·rw[(a.rel.kH b (a.ext.gh b t)).1]at I;cases I
  ·rcases a.own b o q h4 h6 (EK b (by rw[s];simp)) I with h8|h8
   ·exact .inl h8
   ·exact .inr h8
 have Qz:∀id o,J'.get id=some o->(gQ upd id=some (some o))\/(gQ upd id=none/\J.get id=some o):=by
  intro id o n;rw[hg]at n;cases hl:gQ upd id with
  |none=>rw[hl]at n;exact .inr ⟨rfl,n⟩
  |some x=>rw[hl]at n;simp only[sH]at n;subst n;exact .inl rfl
 refine⟨⟨?_,ac,?_,N,?_,λb o s=>a.rel.jl b o (by rw[<-WG];exact s),?_,λp Q=>(v.tabs p Q).mono h1⟩,a.size,?_,?_,?_⟩
 ·intro g af;obtain⟨sz,es,W⟩:=v.nR g af;exact⟨sz,es,h1.pl _ _ W⟩
 ·intro id o n;rcases Qz id o n with h4|⟨h4,W⟩
  ·exact(a.rel.live id o (U id o h4).1).mono h2
  ·exact((v.live id o W).heap (w:=w) λq I R=>O id o q h4 W I R.lt).mono h1
 ·intro id o h B q X y l z A a5 a6;rcases Qz id o y with k|⟨k,f⟩<;>rcases Qz h B z with Y|⟨Y,D⟩
  ·obtain⟨_,T⟩:=c id o q k a5;obtain⟨_,c4⟩:=c h B X Y a6;exact a.rel.sep id o h B _ _ (U _ _ k).1 l (U _ _ Y).1 A T c4
  ·obtain⟨_,T⟩:=c id o q k a5;obtain⟨d1,d2⟩:=m h B X D a6;rcases S id o q k T with e|⟨d,o0,i,r,u,E,G,H⟩
   ·have:=d2.lt;omega
   ·rw[<-H];exact v.sep d o0 h B i X (sub _ _ r) u D (λe=>O7 d o0 r u E (by rw[e];exact Y)) (hi.pl _ _ G) d1
  ·obtain⟨_,c4⟩:=c h B X Y a6;obtain⟨d1,d2⟩:=m id o q f a5;rcases S h B X Y c4 with e|⟨d,o0,i,r,u,E,G,H⟩
   ·have:=d2.lt;omega
   ·rw[<-H];exact v.sep id o d o0 q i f l (sub _ _ r) (λe=>O7 d o0 r u E (by rw[<-e];exact k)) d1 (hi.pl _ _ G)
  ·exact v.sep id o h B _ _ f l D A (m id o q f a5).1 (m h B X D a6).1
 ·intro id o q y l z;rcases Qz id o y with k|⟨k,f⟩
  ·obtain⟨_,T⟩:=c id o q k z;rw[WG];exact a.rel.lU id o q (U _ _ k).1 l T
  ·obtain⟨d1,d2⟩:=m id o q f z;cases R:F'.ro q.bl with
   |none=>rfl
   |some o2=>
    exfalso;rcases a.rW q.bl (by rw[<-WG,R];simp)with e|e|⟨d,o0,i,r,u,E,G,H⟩
    ·rw[aa,v.lU id o q f l d1]at e;exact e rfl
    ·have:=d2.lt;omega
    ·exact v.sep d o0 id o i q (sub _ _ r) u f (λe=>O7 d o0 r u E (by rw[e];exact k)) (hi.pl _ _ G) d1 H
 ·intro bl ag ai;exact a.keep bl ag λid o q y l z A=>ai id o q (sub _ _ y) l (kR L z) (hi.pl _ _ A)
 ·intro id o q y l z A;rcases Qz id o y with k|⟨k,f⟩
  ·obtain⟨_,T⟩:=c id o q k A;rcases S id o q k T with e|⟨d,o0,i,r,u,E,G,H⟩
   ·exact .inl e
   ·exact .inr ⟨d,o0,i,sub _ _ r,u,kR L E,hi.pl _ _ G,H⟩
  ·obtain⟨d1,_⟩:=m id o q f A;exact .inr ⟨id,o,q,f,l,z,d1,rfl⟩
 ·intro b s;rcases a.rW b (by rw[<-WG];exact s)with e|e|⟨d,o0,i,r,u,E,G,H⟩
  ·rw[aa]at e;exact .inl e
  ·exact .inr (.inl e)
  ·exact .inr (.inr ⟨d,o0,i,sub _ _ r,u,kR L E,hi.pl _ _ G,H⟩)
def St.then{F0 F F':Env}{J0 J J':aC}{w0 w w':World}(h:St P F0 J0 w0 F J w)(n:F.le F')(rel:SR P F' J' w')(size:w.heap.size<=w'.heap.size)
 (keep:∀bl,bl<w.heap.size->(∀id o q,J.get id=some o->o.own=true->J.lock<=id->F id=some q->q.bl≠bl)->w'.heap[bl]? =w.heap[bl]?)
 (own:∀id o q,J'.get id=some o->o.own=true->J.lock<=id->F' id=some q->w.heap.size<=q.bl\/∃f o0 g,J.get f=some o0/\o0.own=true/\J.lock<=f/\F f=some g/\g.bl=q.bl)
 (os:w'.os=w.os) (tape:w'.tape=w.tape) (output:w'.output=w.output) (lock:J'.lock=J.lock) (next:J.next<=J'.next)
 (new:∀id,F'.has id->F.has id\/(J0.next<=id/\id<J'.next))
 (rW:∀b,F'.ro b≠none->F.ro b≠none\/w.heap.size<=b\/∃f o0 g,J.get f=some o0/\o0.own=true/\J.lock<=f/\F f=some g/\g.bl=b):St P F0 J0 w0 F' J' w':=by
 refine⟨h.ext.trans n,rel,kR h.size size,?_,?_,os.trans h.os,tape.trans h.tape,output.trans h.output,lock.trans h.lock,kR h.next next,?_,?_⟩
 ·intro bl j k;rw[keep bl (yX j h.size) ?_,h.keep bl j k];intro id o q h1 m i l;rcases h.own id o q h1 m (h.lock▸i) l with x|⟨f,o0,g,a,b,c,d,e⟩
  ·omega
  ·rw[<-e];exact k f o0 g a b c d
 ·intro id o q h1 m i l;rcases own id o q h1 m (by rw[h.lock];exact i) l with x|⟨f,o0,g,a,b,c,d,e⟩
  ·exact .inl (kR h.size x)
  ·rcases h.own f o0 g a b (h.lock▸c) d with L|⟨p,o1,y,r,s,t,d1,u⟩
   ·left;omega
   ·exact .inr ⟨p,o1,y,r,s,t,d1,u.trans e⟩
 ·intro id z;rcases new id z with h1|h1
  ·rcases h.new id h1 with i|⟨i,l⟩
   ·exact .inl i
   ·exact .inr ⟨i,yX l next⟩
  ·exact .inr h1
 ·intro b A;rcases rW b A with h1|h1|⟨f,o0,g,r,s,t,d1,u⟩
  ·exact h.rW b h1
  ·exact .inr (.inl (kR h.size h1))
  ·rcases h.own f o0 g r s (h.lock▸t) d1 with m|⟨v,B,D,E,G,H,d2,I⟩
   ·right;left;omega
   ·exact .inr (.inr ⟨v,B,D,E,G,H,d2,I.trans u⟩)
def lV(rs:Wo):List (List (Nat×Qf)):=rs.map (·.slot)
def iM(rs:Wo):List YY:=rs.map (·.upd)
def jX:Nat->List dX->Nat->Nat
 |c,_,0=>c
 |c,[],_=>c
 |_,r::rs,k+1=>jX r.next rs k
def agz{call:Caller}{ops:W7}{M:Q4}{N0 b l n:Nat}:∀(m:Nat)(a:Wo)(i:Nat)(t:Tr AV)(h:Tr bM)(c:Nat)(rs:Wo)(e:Tr AV)(f:Tr bM)(g:Nat),
 QG P call ops M N0 b l n m a i t h c=some (rs,e,f,g)->∃new,rs=a++new/\new.length=m/\e=jP (lV new) t/\f=jP (iM new) h/\g=jX c new m/\
  ∀(k:Nat) r,new[k]? =some r->zk P call ops M N0 b l n (a++new.take k) (i+k) (jP ((lV new).take k) t) (jP ((iM new).take k) h) (jX c new k)=some r
 |0,a,i,t,h,c,rs,e,f,g,d=>by simp only[QG,bf,pU]at d;obtain⟨rfl,rfl,rfl,rfl⟩:=d;exact⟨[],aA,rfl,rfl,rfl,rfl,aA⟩
 |m+1,a,i,t,h,c,rs,e,f,g,d=>by
  unfold QG at d;split at d
  ·cases d
  ·next r o=>
   obtain⟨new,p,q,u,v,w,x⟩:=agz m _ _ _ _ _ _ _ _ _ d;refine⟨r::new,by rw[p];simp,by simp[q],?_,?_,?_,?_⟩
   ·rw[u];rfl
   ·rw[v];rfl
   ·rw[w];rfl
   ·intro k s j;cases k with
    |zero=>simp at j;subst j;simpa[jP,lV,iM,jX]using o
    |succ k=>have:=x k s (by simpa using j);rw[(ah:i+1+k=i+(k+1))]at this;simp only[List.append_assoc,PK]at this;simpa[lV,iM,jP,jX]using this
def asx{call:Caller}{ops:W7}{M:Q4}{N0 b e n i c:Nat}{d:Wo}{t:Tr AV}{h:Tr bM}{r:dX}(a:CW P call ops M N0 b e n d i t h c=some r):r.base=c:=by
 unfold CW at a;split at a
 ·cases a
 ·simp only at a;split at a
  ·cases a
  ·cases a;rfl
  ·split at a
   ·split at a
    ·cases a;rfl
    ·cases a
   ·split at a
    ·split at a
     ·split at a
      ·cases a;rfl
      ·cases a
     ·cases a
    ·split at a
     ·split at a
      ·cases a;rfl
      ·cases a
     ·cases a
    ·split at a
     ·split at a
      ·cases a;rfl
      ·cases a
     ·cases a
    ·split at a
     ·cases a;rfl
     ·split at a
      ·split at a
       ·cases a;rfl
       ·cases a
      ·cases a
def asy{call:Caller}{ops:W7}{M:Q4}{N0 d f n i c:Nat}{e:Wo}{t:Tr AV}{h:Tr bM}{r:dX}(a:CW P call ops M N0 d f n e i t h c=some r):∃o v,ops[i]? =some o/\r.slot=sW o v:=by
 unfold CW at a;split at a
 ·cases a
 ·next o b=>
  simp only at a;split at a
  ·cases a
  ·cases a;exact⟨o,_,b,rfl⟩
  ·split at a
   ·split at a
    ·cases a;exact⟨o,_,b,rfl⟩
    ·cases a
   ·split at a
    ·split at a
     ·split at a
      ·cases a;exact⟨o,_,b,rfl⟩
      ·cases a
     ·cases a
    ·split at a
     ·split at a
      ·cases a;exact⟨o,_,b,rfl⟩
      ·cases a
     ·cases a
    ·split at a
     ·split at a
      ·cases a;exact⟨o,_,b,rfl⟩
      ·cases a
     ·cases a
    ·split at a
     ·cases a;exact⟨o,_,b,rfl⟩
     ·split at a
      ·split at a
       ·cases a;exact⟨o,_,b,rfl⟩
       ·cases a
      ·cases a
def asA{call:Caller}{ops:W7}{M:Q4}{N0 b e n i c:Nat}{d:Wo}{t:Tr AV}{h:Tr bM}{r:dX}(a:CW P call ops M N0 b e n d i t h c=some r):r.fin=none:=by
 unfold CW at a;split at a
 ·cases a
 ·simp only at a;split at a
  ·cases a
  ·cases a;rfl
  ·split at a
   ·split at a
    ·cases a;rfl
    ·cases a
   ·split at a
    ·split at a
     ·split at a
      ·cases a;rfl
      ·cases a
     ·cases a
    ·split at a
     ·split at a
      ·cases a;rfl
      ·cases a
     ·cases a
    ·split at a
     ·split at a
      ·cases a;rfl
      ·cases a
     ·cases a
    ·split at a
     ·cases a;rfl
     ·split at a
      ·split at a
       ·cases a;rfl
       ·cases a
      ·cases a
def asz{call:Caller}{ops:W7}{M:Q4}{N0 b e n i c:Nat}{d:Wo}{t:Tr AV}{h:Tr bM}{r:dX}(a:zk P call ops M N0 b e n d i t h c=some r):r.base=c:=by
 unfold zk at a;split at a
 ·unfold Ns at a;split at a
  ·cases a
  ·split at a
   ·cases a
   ·cases a;rfl
   ·split at a
    ·cases a;rfl
    ·cases a
 ·exact asx a
def asB{call:Caller}{ops:W7}{M:Q4}{N0 b f n i c:Nat}{d:Wo}{t:Tr AV}{h:Tr bM}{r:dX}(a:zk P call ops M N0 b f n d i t h c=some r):∃o v,ops[i]? =some o/\r.slot=sW o v:=by
 unfold zk at a;split at a
 ·unfold Ns at a;split at a
  ·cases a
  ·next o e=>
   split at a
   ·cases a
   ·cases a;exact⟨o,_,e,rfl⟩
   ·split at a
    ·cases a;exact⟨o,_,e,rfl⟩
    ·cases a
 ·exact asy a
structure tV(ops:W7)(M:Q4)(rs:Wo)(n N0:Nat):Prop where
 hM:M=ou ops.toList []
 mok:RU M 0=true
 len:rs.length=ops.size
 pairs:∀(i j:Nat) r s,rs[i]? =some r->rs[j]? =some s->zJ M i j=true->SC ops N0 i j r s=true
 slot:∀(i:Nat) r,rs[i]? =some r->r.base<=r.next/\∀p∈r.slot,p.1<n
structure Ctx(P:Program)(call:Caller)(ops:W7)(M:Q4)(rs:Wo)(a0:bK)(J0:aC)(cf:Nat):Prop extends tV ops M rs a0.n J0.next where
 one:∀(i:Nat) r,rs[i]? =some r->zk P call ops M J0.next J0.lock a0.gn a0.n (rs.take i) i (jP ((lV rs).take i) a0.t) (jP ((iM rs).take i) J0.h) (jX (J0.next+ops.size) rs i)=some r
 fin:cf=jX (J0.next+ops.size) rs ops.size
 big:cf<=vW
 lock:J0.lock<=J0.next
section
variable{call:Caller}{ops:W7}{M:Q4}{rs:Wo}{a0:bK}{J0:aC}{cf nn N0:Nat}
def Qx:∀(rs:Wo)(c k:Nat)(r:dX),rs[k]? =some r->jX c rs (k+1)=r.next
 |[],c,k,r,h=>by simp at h
 |s::rs,c,0,r,h=>by simp at h;subst h;cases rs<;>rfl
 |s::rs,c,k+1,r,h=>by
  show jX s.next rs (k+1)=r.next
  exact Qx rs s.next k r (by simpa using h)
def Ctx.base(C:Ctx P call ops M rs a0 J0 cf){i:Nat}{r:dX}(h:rs[i]? =some r):r.base=jX (J0.next+ops.size) rs i:=asz (C.one i r h)
def Ctx.mono(C:Ctx P call ops M rs a0 J0 cf):∀(k i:Nat),i+k<=rs.length->jX (J0.next+ops.size) rs i<=jX (J0.next+ops.size) rs (i+k)
 |0,i,_=>dK _
 |k+1,i,h=>by have c:=C.mono k i ah;have a:i+k<rs.length:=ah;have b:rs[i+k]? =some rs[i+k]:=bV a;have:=(C.slot _ _ b).1;rw[C.base b]at this;rw[(ah:i+(k+1)=(i+k)+1),Qx rs _ _ _ b];omega
def Ctx.lt(C:Ctx P call ops M rs a0 J0 cf){i j:Nat}{r s:dX}(hi:rs[i]? =some r)(a:rs[j]? =some s)(h:i<j):r.next<=s.base:=by have b:=(fV.1 a).1;have:=C.mono (j-(i+1)) (i+1) ah;rw[Qx rs _ _ _ hi,(ah:i+1+(j-(i+1))=j)]at this;rw[C.base a];exact this
def Ctx.lo(C:Ctx P call ops M rs a0 J0 cf){i:Nat}{r:dX}(hi:rs[i]? =some r):J0.next+ops.size<=r.base:=by have:=C.mono i 0 (by have:=(fV.1 hi).1;omega);rw[C.base hi];simpa[jX]using this
def Ctx.hi(C:Ctx P call ops M rs a0 J0 cf){i:Nat}{r:dX}(hi:rs[i]? =some r):r.next<=cf:=by have a:=(fV.1 hi).1;have:=C.mono (ops.size-(i+1)) (i+1) (by have:=C.len;omega);rw[Qx rs _ _ _ hi,show i+1+(ops.size-(i+1))=ops.size by have:=C.len;omega]at this;rw[C.fin];exact this
def Ctx.Z5(C:Ctx P call ops M rs a0 J0 cf):J0.next+ops.size<=cf:=by have:=C.mono ops.size 0 (by have:=C.len;omega);rw[C.fin];simpa[jX]using this
def tV.mask(C:tV ops M rs nn N0){i:Nat}{o:Oper}(b:ops[i]? =some o):M[i]? =some (BI (λj=>(M.take i).getD j 0) o.after.toList)/\M.length=ops.size:=by obtain⟨a,_,c⟩:=ajv ops.toList [];have:=c i o (by simpa using b);simp only[kF,l9]at this a;rw[C.hM];exact⟨this,by simpa using a⟩
def Closed(ops:W7)(D:Nat->Bool):Prop:=∀i o,D i=true->ops[i]? =some o->∀e∈o.after.toList,Region.binds .any e=true->D e.on=true
def tV.uo(C:tV ops M rs nn N0){D:Nat->Bool}(k:Closed ops D):∀(i:Nat)(o:Oper),ops[i]? =some o->(∀e∈o.after.toList,Region.binds .any e=true->D e.on=true)->∀j,wM M j i=true->D j=true:=by
 intro i;induction i using Nat.strongRecOn with
 |_ i l=>
  intro o m n j c;obtain⟨p,t⟩:=C.mask m;unfold wM at c;rw[zN,p]at c;obtain⟨e,q,r,h1⟩:=abM c;have a:=n e q r;rcases h1 with rfl|h1
  ·exact a
  ·rw[zN,mW]at h1;split at h1
   ·next d=>
    by_cases f:e.on<ops.size
    ·have b:ops[e.on]? =some ops[e.on]:=by simp[f]
     refine l e.on d ops[e.on] b (λs g h=>k e.on _ a b s g h) j ?_;unfold wM;rw[zN];exact h1
    ·rw[wV ah]at h1;simp at h1
   ·simp at h1
def tV.ab6(C:tV ops M rs nn N0){i j:Nat}(h:wM M j i=true):j<i:=by
 unfold wM at h;rw[zN]at h;cases b:M[i]? with
 |none=>rw[b]at h;simp at h
 |some m=>rw[b]at h;have a:=ajw M 0 C.mok i m b;simp only[l9,sH]at a h;exact Nat.lt_of_not_le λc=>by have:=Nat.testBit_lt_two_pow (yX a (Ul ah c));rw[this]at h;cases h
def tV.open_(C:tV ops M rs nn N0){D:Nat->Bool}(c:Closed ops D){i j:Nat}{o:Oper}(k:ops[i]? =some o)(hi:D i=false)(l:∀e∈o.after.toList,Region.binds .any e=true->D e.on=true)
 (m:j<ops.size) (a:D j≠decide (j<i)):zJ M i j=true:=by
 have d:i≠j:=by rintro rfl;rw[hi]at a;simp at a
 have n:wM M j i=false:=by
  cases h:wM M j i with
  |false=>rfl
  |true=>have f:=C.uo c i o k l j h;have g:=C.ab6 h;rw[f]at a;simp[g]at a
 have f:wM M i j=false:=by
  cases h:wM M i j with
  |false=>rfl
  |true=>
   have g:=C.ab6 h;have p:D j=true:=by
    cases q:D j with
    |true=>rfl
    |false=>rw[q]at a;simp at a;omega
   have b:ops[j]? =some ops[j]:=by simp[m]
   have:=C.uo c j _ b (λe r s=>c j _ p b e r s) i h;rw[this]at hi;cases hi
 unfold zJ;rw[H8 d,n,f];rfl
def QL{l m:Q4}(h:rF l m=true){b:Nat}(a:b∈l):b∉m:=by unfold rF at h;rw[List.all_eq_true]at h;have:=h b a;simpa using this
