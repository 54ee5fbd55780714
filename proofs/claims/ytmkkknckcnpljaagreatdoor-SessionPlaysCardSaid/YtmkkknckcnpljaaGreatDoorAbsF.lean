/- Regions whose order Go leaves open: the evaluator goes by the text, and looks whether another order could make a difference. -/
import Derived.Test.YtmkkknckcnpljaaGreatDoorAbsE
set_option linter.all false
namespace Go.aO
noncomputable section
variable[gY]
def zW(get:Nat->Nat):List Edge->Nat
 |[]=>0
 |e::es=>if Region.binds .any e then(2^e.on |||get e.on) |||zW get es else zW get es
def mQ:List Oper->List Nat->List Nat
 |[],a=>a
 |o::os,a=>mQ os (a++[zW (λk=>a.getD k 0) o.after.toList])
def uw(M:Q2)(j i:Nat):Bool:=(M.getD i 0).testBit j
def yx(M:Q2)(i j:Nat):Bool:=!(Nat.beq i j)&&!(uw M j i)&&!(uw M i j)
def PK:Q2->Nat->Bool
 |[],_=>true
 |m::a,i=>Nat.blt m (2^i)&&PK a (i+1)
def EM{α:Type}:List (Nat×Option α)->Tr α->Tr α
 |[],t=>t
 |(k,v)::l,t=>EM l (t.set k v)
def lg{α:Type}(t:Tr α):Q2->Tr α
 |[]=>.nil
 |k::l=>(lg t l).set k (t.get k)
def Fb{α:Type}(t:Tr α):Q2->Tr α
 |[]=>t
 |k::l=>Fb (t.set k none) l
mutual
def AV.under(c:Nat):AV->Bool
 |.p id _=>Nat.blt id c
 |.sl id _ _ _=>Nat.blt id c
 |.mp id=>Nat.blt id c
 |.fn _ fi cs=>AV.oZ c fi&&AV.oZ c cs
 |.jc _ a=>a.under c
 |.agg l=>AV.oZ c l
 |.eG l=>AV.oZ c l
 |.ro l=>AV.oZ c l
 |.rp a _=>a.under c
 |.sv id _=>Nat.blt id c
 |.pv id _ _=>Nat.blt id c
 |.pd id _=>Nat.blt id c
 |_=>true
def AV.oZ(c:Nat):Q3->Bool
 |[]=>true
 |a::l=>a.under c&&AV.oZ c l
end
def A8(c:Nat):bC->Bool
 |.cells l _ _ _=>AV.oZ c l
 |.iter _ _=>true
 |.map es=>es.all λe=>e.1.under c&&e.2.under c
 |.iterM (some m)=>Nat.blt m c
 |.iterM none=>true
 |.vec _ _ _=>true
 |.smap _ _ _=>true
 |.pmap es=>es.all λe=>e.2.under c
def N7(c:Nat)(h:Tr bC):Q2->Bool
 |[]=>true
 |k::l=>Nat.blt k c&&(match h.get k with|some o=>A8 c o|none=>true)&&N7 c h l
def Kw(c:Nat)(t:Tr AV):Q2->Bool
 |[]=>true
 |k::l=>(match t.get k with|some v=>v.under c|none=>true)&&Kw c t l
structure dM where
 slot:List (Nat×Q4)
 upd:Wz
 vis:Option Q2
 loc:Q2
 base:Nat
 next:Nat
 fin:Option aA:=none
abbrev We:=List dM
inductive Cls where
 |na (vis:Q2)
 |wr (w:Q2)
 |sa (w:Q2)
 |ca
def auf:AV->List Nat
 |.p id _=>[id]
 |.sl id _ _ _=>[id]
 |.mp id=>[id]
 |.sv id _=>[id]
 |.pv id _ _=>[id]
 |.pd id _=>[id]
 |_=>[]
def xZ(b:QP)(x:Operand):Q2:=match b x with|some a=>auf a|none=>[]
def aea(o:Oper)(b:QP):Cls:=
 match o.op with
 |.load _ a=>.na (xZ b a)
 |.indexAddr _ x _=>.na (xZ b x)
 |.store _ a _=>.wr (xZ b a)
 |.box .. |.buildSlice .. |.makeSlice .. |.makeMap ..=>.sa []
 |.convert _ _ x=>.sa (xZ b x)
 |.slice _ x _ _ _=>.na (xZ b x)
 |.lookup _ m _ _=>.na (xZ b m)
 |.mapUpdate _ m _ _|.insert _ m _ _=>.wr (xZ b m)
 |.range _ x=>.sa (xZ b x)
 |.next d _=>.wr (xZ b d)
 |.call c=>match c.callee with
  |.builtin .len=>.na (c.args.toList.flatMap (xZ b))
  |.builtin .append|.builtin .copy|.builtin .clear=>.sa (c.args.toList.flatMap (xZ b))
  |.builtin .unsafeSliceData=>.na (c.args.toList.flatMap (xZ b))
  |.builtin .unsafeString=>.wr (c.args.toList.flatMap (xZ b))
  |.builtin _=>.na []
  |_=>.ca
 |_=>.na []
def tJ:Nat:=2^64
def qE(o:Oper)(v:Q4):List (Nat×Q4):=match o.dst with|some d=>[(d,v)]|none=>[]
def Fv(τ:aA):Nat->Nat->List (Nat×Option bC)
 |_,0=>[]
 |c,n+1=>(c,match τ.get c with|some o=>if o.own then some o else none|none=>none)::Fv τ (c+1) n
def keysOf{α:Type}(l:List (Nat×Option α)):Q2:=l.map (·.1)
def D8(M:Q2)(i:Nat):We->Nat->List Nat
 |[],_=>[]
 |r::rs,j=>if yx M i j then keysOf r.upd++D8 M i rs (j+1)else D8 M i rs (j+1)
def PD(M:Q2)(i:Nat):We->Nat->List Nat
 |[],_=>[]
 |r::rs,j=>if yx M i j then PD M i rs (j+1)else keysOf r.upd++PD M i rs (j+1)
def Jk(h:Tr bC)(a:Nat)(l:Q2):Q2:=l.filter λk=>Nat.ble a k&&(match h.get k with|some o=>o.own|none=>false)
mutual
def Ku:AV->List Nat
 |.p id _|.sl id _ _ _|.mp id|.sv id _|.pv id _ _|.pd id _=>[id]
 |.fn _ fs cs=>Kv fs++Kv cs
 |.jc _ v=>Ku v
 |.agg l=>Kv l
 |.eG l=>Kv l
 |_=>[]
def Kv:Q3->List Nat
 |[]=>[]
 |a::l=>Ku a++Kv l
end
def av4:bC->List Nat
 |.cells l _ _ _=>Kv l
 |.map es=>es.flatMap λe=>Ku e.1++Ku e.2
 |.pmap es=>es.flatMap λe=>Ku e.2
 |.iterM (some m)=>[m]
 |_=>[]
def aa7(h:Tr bC):Nat->List Nat->List Nat->List Nat
 |0,_,seen=>seen
 |_+1,[],seen=>seen
 |f+1,k::a,seen=>bif seen.contains k then aa7 h f a seen else aa7 h f ((match h.get k with|some o=>av4 o|none=>[])++a) (k::seen)
def Qc(o:Oper)(a:QP)(h:Tr bC):Q2:=
 aa7 h 1000 (o.op.operands.toList.flatMap λx=>match a x with|some v=>Ku v|none=>[]) []
def avi(ops:W4)(j:Nat):Bool:=match ops[j]? with
 |some o=>match o.op with
  |.buildSlice .. |.makeSlice .. |.makeMap ..=>true
  |_=>false
 |none=>false
def auG(ops:W4)(M:Q2)(i:Nat):Bool:=(List.range ops.size).any λj=>Nat.blt i j&&avi ops j&&yx M i j
def ajW{α:Type}(b:Bool)(x:Unit->Option α):Option α:=bif b then none else x ()
def aCw{α:Type}{b:Bool}{x:Unit->Option α}{y:α}(h:ajW b x=some y):x ()=some y:=by
 cases b with
 |true=>cases h
 |false=>exact h
def Bf(P:Program)(call:Caller)(ops:W4)(M:Q2)(N0 lock gn n:Nat)(b:We)(i:Nat)(t:Tr AV)(h:Tr bC)(c:Nat):Option dM:=
 match ops[i]? with
 |none=>none
 |some o=>
  let a:bn:={t:=lg t (o.looksAt ops),n:=n,gn:=gn}
  match JO o ops a with
  |none=>none
  |some false=>some {slot:=qE o (some (.eG [])),upd:=[],vis:=some [],loc:=[],base:=c,next:=c}
  |some true=>
   match o.op with
   |.alloc d=>match y8 P d with
    |some z=>some {slot:=qE o (some (.p (N0+i) 0)),upd:=[(N0+i,some (.cells z d true false))],vis:=some [],loc:=[],base:=c,next:=c}
    |none=>none
   |_=>
    match aea o a.eval with
    |.na l=>
     match zH P call o a.eval {h:=lg h l,next:=tJ,lock:=tJ}with
     |some (v,τ)=>if Nat.beq τ.next tJ then some {slot:=qE o v,upd:=[],vis:=some l,loc:=[],base:=c,next:=c}else none
     |none=>none
    |.wr l=>
     match zH P call o a.eval {h:=lg h l,next:=tJ,lock:=lock}with
     |some (v,τ)=>if Nat.beq τ.next tJ then some {slot:=qE o v,upd:=(Jk h lock l).map λk=>(k,τ.get k),vis:=some l,loc:=[],base:=c,next:=c}else none
     |none=>none
    |.sa l=>
     if Kw c t (o.looksAt ops)&&N7 c h l then
      match zH P call o a.eval {h:=lg h l,next:=c,lock:=lock}with
      |some (v,τ)=>some {slot:=qE o v,upd:=((Jk h lock l).map λk=>(k,τ.get k))++Fv τ c (τ.next-c),vis:=some l,loc:=[],base:=c,next:=τ.next}
      |none=>none
     else none
    |.ca=>
     match ajW (auG ops M i) (λ_=>zH P call o a.eval {h:=Fb h (D8 M i b 0),next:=c,lock:=c})with
     |some (v,τ)=>some {slot:=qE o v,upd:=Fv τ c (τ.next-c),vis:=none,loc:=PD M i b 0,base:=c,next:=τ.next}
     |none=>
      if Kw c t (o.looksAt ops)&&N7 c h (Qc o a.eval h)then
       match zH P call o a.eval {h:=lg h (Qc o a.eval h),next:=c,lock:=lock}with
       |some (v,τ)=>some {slot:=qE o v,upd:=((Jk h lock (Qc o a.eval h)).map λk=>(k,τ.get k))++Fv τ c (τ.next-c),vis:=some (Qc o a.eval h),loc:=[],base:=c,next:=τ.next}
       |none=>none
      else none
def Dt(o:Oper):Bool:=match o.op with
 |.move _|.assign _|.binOp .. |.extract ..=>true
 |_=>false
def nT(ops:W4)(i:Nat):Bool:=match ops[i]? with|some o=>Dt o|none=>false
def V6(ops:W4)(M:Q2):Nat->Nat
 |0=>0
 |k+1=>if(nT ops k ||(List.range k).all λj=>nT ops j ||uw M j k)=true then V6 ops M k else k+1
def nX(ops:W4)(M:Q2)(i:Nat):Bool:=Nat.ble (V6 ops M ops.size) i&&!(nT ops i)
def vG:We->aA->aA
 |[],J=>J
 |r::rs,J=>vG rs (match r.fin with|some τ=>τ|none=>J)
def KR(P:Program)(call:Caller)(ops:W4)(lock gn n:Nat)(a:We)(i:Nat)(t:Tr AV)(h:Tr bC)(c:Nat):Option dM:=
 match ops[i]? with
 |none=>none
 |some o=>
  match JO o ops {t:=lg t (o.looksAt ops),n:=n,gn:=gn}with
  |none=>none
  |some false=>some {slot:=qE o (some (.eG [])),upd:=[],vis:=some [],loc:=[],base:=c,next:=c,fin:=some (vG a {h:=h,next:=c,lock:=lock})}
  |some true=>match zH P call o (bn.eval {t:=lg t (o.looksAt ops),n:=n,gn:=gn}) (vG a {h:=h,next:=c,lock:=lock})with
   |some (v,τ)=>some {slot:=qE o v,upd:=[],vis:=some [],loc:=[],base:=c,next:=c,fin:=some τ}
   |none=>none
def xU(P:Program)(call:Caller)(ops:W4)(M:Q2)(N0 a d n:Nat)(b:We)(i:Nat)(t:Tr AV)(h:Tr bC)(c:Nat):Option dM:=
 if nX ops M i=true then KR P call ops a d n b i t h c else Bf P call ops M N0 a d n b i t h c
def OL(P:Program)(call:Caller)(ops:W4)(M:Q2)(N0 b d n:Nat):Nat->List dM->Nat->Tr AV->Tr bC->Nat->Option (We×Tr AV×Tr bC×Nat)
 |0,a,_,t,h,c=>some (a,t,h,c)
 |m+1,a,i,t,h,c=>
  match xU P call ops M N0 b d n a i t h c with
  |none=>none
  |some r=>OL P call ops M N0 b d n m (a++[r]) (i+1) (EM r.slot t) (EM r.upd h) r.next
def pI(l m:Q2):Bool:=l.all λk=>!(m.contains k)
def P7(ops:W4)(N0:Nat)(i j:Nat)(r s:dM):Bool:=
 let a:=keysOf s.upd
 pI (keysOf r.slot) (keysOf s.slot)&&
 (match ops[i]? with|some o=>pI (o.looksAt ops) (keysOf s.slot)|none=>false)&&
 pI (keysOf r.upd) a&&
 (match r.vis with
  |some l=>pI l a
  |none=>Nat.blt j i ||(a.all (Nat.ble N0 ·)&&pI r.loc a&&Nat.beq s.base s.next))
def ajt(ops:W4)(i j:Nat):Bool:=
 match ops[i]?,ops[j]? with
 |some o,some b=>
  match b.dst with
  |none=>true
  |some a=>(match o.dst with|some d=>!(Nat.beq d a)|none=>true)&&!((o.looksAt ops).contains a)
 |_,_=>false
def abC(ops:W4)(M:Q2):Bool:=
 (List.range ops.size).all λi=>(List.range ops.size).all λj=>!(yx M i j) ||ajt ops i j
def Tj(N0 i j:Nat)(r s:dM):Bool:=
 pI (keysOf r.upd) (keysOf s.upd)&&
 (match r.vis with
  |some l=>pI l (keysOf s.upd)
  |none=>Nat.blt j i ||((keysOf s.upd).all (Nat.ble N0 ·)&&pI r.loc (keysOf s.upd)&&Nat.beq s.base s.next))
def Yk(M:Q2)(N0:Nat)(rs:We):Bool:=
 rs.zipIdx.all λ(s,j)=>(s.upd.isEmpty&&Nat.beq s.base s.next) ||rs.zipIdx.all λ(r,i)=>!(yx M i j) ||Tj N0 i j r s
def aey(l:Q2):pI l []=true:=by unfold pI;simp
def awD{ops:W4}{M:Q2}{N0:Nat}{rs:We}(a:abC ops M=true)(b:Yk M N0 rs=true)(x:∀(i:Nat) r,rs[i]? =some r->∃o v,ops[i]? =some o/\r.slot=qE o v):
 ∀(i j:Nat) r s,rs[i]? =some r->rs[j]? =some s->yx M i j=true->P7 ops N0 i j r s=true:=by
 intro i j r s y z A;obtain⟨o,v,m,n⟩:=x i r y;obtain⟨E,J,f,p⟩:=x j s z;have q:i<ops.size:=(qj.1 m).1;have t:j<ops.size:=(qj.1 f).1;unfold abC at a;rw[List.all_eq_true]at a;have B:=a i (by simpa using q);rw[List.all_eq_true]at B;have c:=B j (by simpa using t);rw[A]at c;simp only[WG,Aq,ajt,m,f]at c;have h:Tj N0 i j r s=true:=by
  unfold Yk at b;rw[List.all_eq_true]at b;have g:=b (s,j) (by rw[akw];simpa using z);simp only[mY,aK]at g;rcases g with⟨l,F⟩|g
  ·have G:s.upd=[]:=by simpa using l
   unfold Tj;rw[G];simp only[keysOf,jO,aey,acw,F,Bool.and_self,Bool.or_true];cases r.vis<;>rfl
  ·rw[List.all_eq_true]at g;have l:=g (r,i) (by rw[akw];simpa using y);simp only[A,WG,Aq]at l;exact l
 unfold Tj at h;rw[aK]at h;unfold P7;rw[m];simp only[n,p,h.1,h.2,Nq];unfold qE;cases u:E.dst with
 |none=>simp[keysOf,aey]
 |some D=>
  rw[u]at c;simp only[aK]at c;rw[aK];constructor
  ·cases H:o.dst with
   |none=>simp[keysOf,pI]
   |some d=>
    rw[H]at c;have:=c.1;simp only[keysOf,gX,jO,pI,sW,acw,Nq,zf]at this⊢;rw[List.contains_cons];simp only[List.contains_nil,Nr];cases w:d==D with
    |false=>rfl
    |true=>have e:=eq_of_beq w;subst e;simp at this
  ·have:=c.2;simp only[keysOf,gX,jO,pI,List.all_eq_true,zf]at this⊢;intro k I;rw[List.contains_cons];simp only[List.contains_nil,Nr];cases w:k==D with
   |false=>rfl
   |true=>have e:=eq_of_beq w;subst e;rw[acz.2 I]at this;cases this
def ajl(n:Nat)(rs:We):Bool:=rs.all λr=>Nat.ble r.base r.next&&r.slot.all λp=>Nat.blt p.1 n
def Xq(P:Program)(call:Caller)(ops:W4)(a:bn)(J:aA):Option (bn×aA):=
 let M:=mQ ops.toList []
 let N0:=J.next
 if PK M 0&&Nat.ble J.lock J.next then
  match OL P call ops M N0 J.lock a.gn a.n ops.size [] 0 a.t J.h (N0+ops.size)with
  |some (rs,t,h,c)=>
   if abC ops M&&Yk M N0 rs&&ajl a.n rs&&Nat.ble c tJ then
    some ({a with t:=t},vG rs {h:=h,next:=c,lock:=J.lock})
   else none
  |none=>none
 else none
def Xp(P:Program)(call:Caller)(ops:W4)(a:bn)(J:aA):Option (bn×aA):=
 Xq P call ops a J
end
noncomputable section
variable[aI]
def Gm{a b:Nat}(h:a≠b):Nat.beq a b=false:=by
 cases e:Nat.beq a b with
 |false=>rfl
 |true=>exact absurd (bH e) h
section
variable{α:Type}
def fK:List (Nat×Option α)->Nat->Option (Option α)
 |[],_=>none
 |(k,v)::l,b=>match fK l b with
  |some x=>some x
  |none=>if b=k then some v else none
def YL:∀(l:List (Nat×Option α))(t:Tr α)(b:Nat),(EM l t).get b=(fK l b).getD (t.get b)
 |[],t,b=>rfl
 |(k,v)::l,t,b=>by
  rw[EM,YL l,fK];cases fK l b with
  |some x=>rfl
  |none=>simp only[xI,Tr.wP];split<;>rfl
def yO:∀(l:List (Nat×Option α))(b:Nat),fK l b≠none↔b∈keysOf l
 |[],b=>by simp[fK,keysOf]
 |(k,v)::l,b=>by
  have a:=yO l b;simp only[keysOf,gX,bD]at a⊢;rw[fK];cases h:fK l b with
  |some x=>rw[h]at a;simp only[ne_eq,reduceCtorEq,not_false_eq_true,true_iff]at a;simp[a]
  |none=>rw[h]at a;simp only[ne_eq,not_true_eq_false,false_iff]at a;simp only[a,or_false];split<;>simp_all
def PE{l:List (Nat×Option α)}{b:Nat}(h:b∉keysOf l):fK l b=none:=by
 cases a:fK l b with
 |none=>rfl
 |some x=>exact absurd ((yO l b).1 (by rw[a];simp)) h
def lM:List (List (Nat×Option α))->Nat->(Nat->Bool)->Nat->Option (Option α)
 |[],_,_,_=>none
 |u::a,k,D,b=>match lM a (k+1) D b with
  |some x=>some x
  |none=>if D k=true then fK u b else none
def jW:List (List (Nat×Option α))->Nat->(Nat->Bool)->Tr α->Tr α
 |[],_,_,t=>t
 |u::a,k,D,t=>jW a (k+1) D (if D k=true then EM u t else t)
def Dw:∀(a:List (List (Nat×Option α)))(k:Nat)(D:Nat->Bool)(t:Tr α)(b:Nat),(jW a k D t).get b=(lM a k D b).getD (t.get b)
 |[],_,_,_,_=>rfl
 |u::a,k,D,t,b=>by
  rw[jW,Dw a,lM];cases lM a (k+1) D b with
  |some x=>rfl
  |none=>
   simp only[xI];split
   ·rw[YL]
   ·rfl
def jo:List (List (Nat×Option α))->Tr α->Tr α
 |[],t=>t
 |u::a,t=>jo a (EM u t)
def LM:∀(a:List (List (Nat×Option α)))(k:Nat)(D E:Nat->Bool)(b:Nat),(∀(j:Nat) u,a[j]? =some u->D (k+j)≠E (k+j)->fK u b=none)->lM a k D b=lM a k E b
 |[],_,_,_,_,_=>rfl
 |u::a,k,D,E,b,h=>by
  have f:=LM a (k+1) D E b (λj v g c=>h (j+1) v (by simpa using g) (by rw[show k+(j+1)=k+1+j by omega];exact c));have d:=h 0 u (by simp);rw[lM,lM,f];cases lM a (k+1) E b with
  |some x=>rfl
  |none=>
   simp only[lD]at d;by_cases e:D k=E k
   ·rw[e]
   ·rw[d e];simp
def auE(a:List (List (Nat×Option α)))(k:Nat)(D:Nat->Bool)(b:Nat)(h:∀j,j<a.length->D (k+j)=false):lM a k D b=none:=by
 induction a generalizing k with
 |nil=>rfl
 |cons u a c=>rw[lM,c (k+1) (λj d=>by rw[show k+1+j=k+(j+1) by omega];exact h (j+1) (by simpa using d))];have:=h 0 (by simp);simp only[lD]at this;simp[this]
def ZH:∀(a:List (List (Nat×Option α)))(k:Nat)(D:Nat->Bool)(b:Nat)(x:Option α),lM a k D b=some x->∃(j:Nat)(u:List (Nat×Option α)),a[j]? =some u/\D (k+j)=true/\fK u b=some x
 |[],_,_,_,_,h=>by simp[lM]at h
 |u::a,k,D,b,x,h=>by
  rw[lM]at h;split at h
  ·next y c=>
   cases h;obtain⟨j,v,h1,d,e⟩:=ZH a (k+1) D b _ c;exact⟨j+1,v,by simpa using h1,by rw[show k+(j+1)=k+1+j by omega];exact d,e⟩
  ·split at h
   ·next f=>exact⟨0,u,by simp,by simpa using f,h⟩
   ·cases h
def Ll:∀(a:List (List (Nat×Option α)))(i k:Nat)(t:Tr α)(b:Nat),(jo (a.take i) t).get b=(lM a k (λj=>decide (j<k+i)) b).getD (t.get b)
 |[],i,k,t,b=>by simp[jo,lM]
 |u::a,0,k,t,b=>by rw[auE _ _ _ _ (λj _=>by simp)];rfl
 |u::a,i+1,k,t,b=>by
  have c:=Ll a i (k+1) (EM u t) b;simp only[AA,jo];rw[c,lM];have:(λj=>decide (j<k+1+i))=λj=>decide (j<k+(i+1)):=by funext j;congr 1;apply propext;omega
  rw[this];cases lM a (k+1) (λj=>decide (j<k+(i+1))) b with
  |some x=>rfl
  |none=>simp only[xI];rw[aj (by simp),YL]
def ZG:∀(a:List (List (Nat×Option α)))(k i:Nat)(D:Nat->Bool)(b:Nat)(u:List (Nat×Option α)),a[i]? =some u->D (k+i)=false->
 (∀(j:Nat) v,a[j]? =some v->i<j->D (k+j)=true->fK u b≠none->fK v b=none)->
 lM a k (λj=>D j ||Nat.beq j (k+i)) b=match fK u b with|some x=>some x|none=>lM a k D b
 |[],_,_,_,_,_,h,_,_=>by simp at h
 |v::a,k,0,D,b,u,h,d,c=>by
  simp at h;subst h;have tail:lM a (k+1) (λj=>D j ||Nat.beq j (k+0)) b=lM a (k+1) D b:=by refine LM _ _ _ _ _ λj w l g=>?_;exfalso;apply g;have:Nat.beq (k+1+j) (k+0)=false:=Gm (by omega);simp only[this,Nr]
  simp only[lM,tail];simp only[lD]at d⊢;have m:Nat.beq k k=true:=by simp
  cases f:fK v b with
  |none=>simp[m,d,f]
  |some x=>
   have:lM a (k+1) D b=none:=by
    cases p:lM a (k+1) D b with
    |none=>rfl
    |some y=>obtain⟨j,w,q,r,n⟩:=ZH _ _ _ _ _ p;have:=c (j+1) w (by simpa using q) (by omega) (by rw[show k+(j+1)=k+1+j by omega];exact r) (by rw[f];simp);rw[this]at n;cases n
   simp[this,m,f]
 |v::a,k,i+1,D,b,u,h,d,c=>by
  have o:=ZG a (k+1) i D b u (by simpa using h) (by rw[show k+1+i=k+(i+1) by omega];exact d) (λj w l s t=>c (j+1) w (by simpa using l) (by omega) (by rw[show k+(j+1)=k+1+j by omega];exact t));have e:(λj=>D j ||Nat.beq j (k+1+i))=λj=>D j ||Nat.beq j (k+(i+1)):=by funext j;congr 2;omega
  rw[e]at o;simp only[lM,o];have z:Nat.beq k (k+(i+1))=false:=Gm (by omega);cases f:fK u b with
  |some x=>simp
  |none=>simp[z]
def Bv(t:Tr α):∀(l:Q2)(b:Nat),(lg t l).get b=if b∈l then t.get b else none
 |[],b=>by simp[lg]
 |k::l,b=>by
  rw[lg,Tr.wP,Bv t l];by_cases e:b=k
  ·subst e;simp
  ·simp[e]
def afj:∀(l:Q2)(t:Tr α)(b:Nat),(Fb t l).get b=if b∈l then none else t.get b
 |[],t,b=>by simp[Fb]
 |k::l,t,b=>by
  rw[Fb,afj l,Tr.wP];by_cases e:b=k
  ·subst e;simp
  ·simp[e]
end
def ZW{get:Nat->Nat}{j:Nat}:∀{es:List Edge},(zW get es).testBit j=true->∃e∈es,Region.binds .any e=true/\(j=e.on\/(get e.on).testBit j=true)
 |[],h=>by simp[zW]at h
 |e::es,h=>by
  rw[zW]at h;split at h
  ·next d=>
   rw[QU,QU,mY,mY,Nat.testBit_two_pow]at h;rcases h with(h|h)|h
   ·exact⟨e,by simp,d,.inl (LX h).symm⟩
   ·exact⟨e,by simp,d,.inr h⟩
   ·obtain⟨a,h1,b,c⟩:=ZW h;exact⟨a,by simp[h1],b,c⟩
  ·obtain⟨a,h1,b,c⟩:=ZW h;exact⟨a,by simp[h1],b,c⟩
def agP:∀(os:List Oper)(a:Q2),(mQ os a).length=a.length+os.length/\(∀k,k<a.length->(mQ os a)[k]? =a[k]?)/\
 ∀(k:Nat) o,os[k]? =some o->(mQ os a)[a.length+k]? =some (zW (λj=>((mQ os a).take (a.length+k)).getD j 0) o.after.toList)
 |[],a=>by simp[mQ]
 |o::os,a=>by
  obtain⟨h1,b,e⟩:=agP os (a++[zW (λk=>a.getD k 0) o.after.toList]);rw[mQ];simp only[eX,jw,nZ]at h1 b e;refine⟨by simp only[jw];omega,λk f=>?_,λk g c=>?_⟩
  ·rw[b k (by omega),ny f]
  ·cases k with
   |zero=>
    simp at c;subst c;rw[lD,b a.length (by omega),vK (dY _)];simp only[AL,kW];congr 2;funext j;by_cases d:j<a.length
    ·rw[yB,yB,mG,aj d,b j (by omega),ny d]
    ·rw[yB,yB,mG,ah d,sZ (by omega)]
   |succ k=>have:=e k g (by simpa using c);rw[show a.length+1+k=a.length+(k+1) by omega]at this;exact this
def agQ:∀(M:Q2)(k:Nat),PK M k=true->∀(j m:Nat),M[j]? =some m->m<2^(k+j)
 |[],_,_,j,m,h=>by simp at h
 |x::M,k,h,j,m,a=>by
  simp only[PK,aK]at h;cases j with
  |zero=>simp at a;subst a;have b:=h.1;rw[jm]at b;simpa using b
  |succ j=>have:=agQ M (k+1) h.2 j m (by simpa using a);rw[show k+(j+1)=k+1+j by omega];exact this
end
noncomputable section
variable[aI]
variable{P:Program}
def Xr{H:Env}{τ τ':aA}{w:World}(h:SR P H τ w){call:Caller}(d:rD P call){o:Oper}{a:bn}{A:Act}(j:TR P H a A){r:Q4}{K:Act->World->Prop}{Q:Exit->Act->World->Prop}
 (k:uO P call o a.eval τ=some (r,τ')) (i:∀x H' w',St P H τ w H' τ' w'->(∀v,r=some v->VR H' v x)->K (A.put o.dst x) w'):o.wp P A w K Q:=by
 cases l:FH o.op with
 |true=>refine adU h d j l k λv x H' w' m b e=>i x H' w' b λu g=>by rw[m]at g;cases g;exact e
 |false=>
  obtain⟨n,w',H',f,b,c⟩:=ahm h (λx v e=>OV h j x v e) l k;unfold Oper.wp;rw[f];cases r with
  |none=>subst c;exact i undef H' w' b (by simp)
  |some v=>obtain⟨x,rfl,e⟩:=c;exact i x H' w' b (λu g=>by cases g;exact e)
def Env.cut(H:Env)(c:Nat):Env:=⟨λid=>if id<c then H id else none,H.ro,λid=>decide (id<c)&&H.gh id⟩
def Env.KQ(H:Env)(c:Nat):(H.cut c).le H:=⟨λid q h=>(by
 simp only[Env.cut]at h;split at h
 ·exact h
 ·cases h),λ_ _ h=>h,λ_ h=>(aK _ _▸h:_/\_).2⟩
def Env.aen{H:Env}{c id:Nat}(h:id<c)(a:H.gh id=true):(H.cut c).gh id=true:=by simp[Env.cut,h,a]
mutual
def VR.cut{H:Env}{c:Nat}:∀(a:AV)(v:Value),a.under c=true->VR H a v->VR (H.cut c) a v
 |.b _,_,_,b=>by simpa only[VR]using b
 |.i _ _,_,_,b=>by simpa only[VR]using b
 |.s _,_,_,b=>by simpa only[VR]using b
 |.jD,_,_,b=>by simpa only[VR]using b
 |.p id _,_,d,b=>by simp only[VR]at b⊢;obtain⟨q,h,e⟩:=b;simp only[AV.under,jm]at d;exact⟨q,by simp only[Env.cut];rw[aj d];exact h,e⟩
 |.gu,_,_,b=>by simpa only[VR]using b
 |.sl id _ _ _,_,d,b=>by simp only[VR]at b⊢;obtain⟨q,h,e⟩:=b;simp only[AV.under,jm]at d;exact⟨q,by simp only[Env.cut];rw[aj d];exact h,e⟩
 |.oU,_,_,b=>by simpa only[VR]using b
 |.mp id,_,d,b=>by simp only[VR]at b⊢;obtain⟨q,h,e⟩:=b;simp only[AV.under,jm]at d;exact⟨q,by simp only[Env.cut];rw[aj d];exact h,e⟩
 |.yR,_,_,b=>by simpa only[VR]using b
 |.fn _ w o,_,d,b=>by simp only[VR]at b⊢;simp only[AV.under,aK]at d;obtain⟨t,u,e,f,g⟩:=b;exact⟨t,u,e,aF.cut w t d.1 f,aF.cut o u d.2 g⟩
 |.sH,_,_,b=>by simpa only[VR]using b
 |.jc _ a,_,d,b=>by simp only[VR]at b⊢;simp only[AV.under]at d;obtain⟨x,e,f⟩:=b;exact⟨x,e,VR.cut a x d f⟩
 |.agg l,_,d,b=>by simp only[VR]at b⊢;simp only[AV.under]at d;obtain⟨x,e,f⟩:=b;exact⟨x,e,aF.cut l x d f⟩
 |.eG l,_,d,b=>by simp only[VR]at b⊢;simp only[AV.under]at d;obtain⟨x,e,f⟩:=b;exact⟨x,e,aF.cut l x d f⟩
 |.z _ _ _,_,_,b=>by simpa only[VR]using b
 |.ro l,_,d,b=>by
  simp only[VR]at b⊢;simp only[AV.under]at d;rcases b with b|⟨r,s,y,j,z,e,A,f,g,m⟩
  ·exact .inl b
  right;exact⟨r,s,y,j,z,e,A,aF.cut l j d f,g,m⟩
 |.rp a _,_,d,b=>by simp only[VR]at b⊢;simp only[AV.under]at d;obtain⟨r,base,o,n,B,x,f,g,m⟩:=b;exact⟨r,base,o,n,B,x,f,VR.cut a x d g,m⟩
 |.nd _,_,_,b=>by simp only[VR]at b⊢;exact b
 |.rx _ _,_,_,b=>by simp only[VR]at b⊢;exact b
 |.sv id _,_,d,b=>by
  simp only[VR]at b⊢;simp only[AV.under,jm]at d;obtain⟨j,f,⟨q,h,g⟩|g⟩:=b
  ·exact⟨j,f,.inl ⟨q,by simp only[Env.cut];rw[aj d];exact h,g⟩⟩
  ·exact⟨j,f,.inr ⟨Env.aen d g.1,g.2⟩⟩
 |.pv id _ _,_,d,b=>by simp only[VR]at b⊢;simp only[AV.under,jm]at d;obtain⟨q,k,i,h,g⟩:=b;exact⟨q,k,i,by simp only[Env.cut];rw[aj d];exact h,g⟩
 |.pd id _,_,d,b=>by simp only[VR]at b⊢;simp only[AV.under,jm]at d;obtain⟨j,p,f,g,m⟩:=b;exact⟨j,p,f,g,λD=>by obtain⟨q,h,E⟩:=m D;exact⟨q,by simp only[Env.cut];rw[aj d];exact h,E⟩⟩
def aF.cut{H:Env}{c:Nat}:∀(l:Q3)(vs:Q6),AV.oZ c l=true->aF H l vs->aF (H.cut c) l vs
 |[],_,_,b=>by simpa only[aF]using b
 |a::l,_,d,b=>by simp only[aF]at b⊢;simp only[AV.oZ,aK]at d;obtain⟨x,xs,e,h1,f⟩:=b;exact⟨x,xs,e,VR.cut a x d.1 h1,aF.cut l xs d.2 f⟩
end
def ajV{c:Nat}:∀{l:Q3}{k:Nat}{a:AV},AV.oZ c l=true->l[k]? =some a->a.under c=true
 |[],k,a,_,h=>by simp at h
 |x::l,k,a,b,h=>by
  simp only[AV.oZ,aK]at b;cases k with
  |zero=>simp at h;subst h;exact b.1
  |succ k=>exact ajV b.2 (by simpa using h)
def OR.cut{H:Env}{c:Nat}{q:Place}{w:World}{o:bC}(j:A8 c o=true)(h:OR P H q w o):OR P (H.cut c) q w o:=by
 cases o with
 |cells l F rw G=>obtain⟨v,d,y,i,r⟩:=h;exact⟨v,d,y,i,{r with cell:=λk a g=>by obtain⟨x,I,J⟩:=r.cell k a g;exact⟨x,I,VR.cut a x (ajV j g) J⟩}⟩
 |iter s pos=>exact h
 |map es=>obtain⟨z,b,i,p,u⟩:=h;refine⟨z,b,i,p,λk e g=>?_⟩;obtain⟨m,A,B,D⟩:=u k e g;simp only[A8,List.all_eq_true,aK]at j;have:=j e (qp g);exact⟨m,A,VR.cut _ _ this.1 B,VR.cut _ _ this.2 D⟩
 |iterM m=>
  cases m with
  |none=>exact h
  |some m=>obtain⟨L,t,last,N,i,p⟩:=h;simp only[A8,jm]at j;exact⟨L,t,last,N,by simp only[Env.cut];rw[aj j];exact i,p⟩
 |smap n Y Z=>exact h
 |pmap es=>obtain⟨O,z,b,E,i,Q,p,u⟩:=h;refine⟨O,z,b,E,i,Q,p,λk e g=>?_⟩;obtain⟨m,A,B,D⟩:=u k e g;simp only[A8,List.all_eq_true]at j;exact⟨m,A,B,VR.cut _ _ (j e (qp g)) D⟩
 |vec n F f=>obtain⟨S,v,d,y,T,i,p,u,U,V,W,r,X⟩:=h;exact⟨S,v,d,y,T,i,p,u,U,V,W,{r with cell:=λk a g=>by simp at g},X⟩
def St.merge{H Z rC H':Env}{J J' τ τ':aA}{w w':World}{upd:Wz}(v:SR P H J w)(Ue:SR P Z τ w)(a:St P Z τ w rC τ' w')(sub:∀id o,τ.get id=some o->J.get id=some o)(hi:Z.le H)(aa:Z.ro=H.ro)(Uj:H'.ro=rC.ro)
 (h1:H.le H') (h2:rC.le H') (hg:∀b,J'.get b=(fK upd b).getD (J.get b))
 (V:∀b o,fK upd b=some (some o)->τ'.get b=some o/\((∃o0,τ.get b=some o0/\o0.own=true)\/(o.own=true/\τ.get b=none)))
 (MZ:∀id o,τ.get id=some o->o.own=true->τ.lock<=id->fK upd id≠none) (L:J.lock<=τ.lock) (FD:∀b,fK upd b≠none->τ.lock<=b)
 (ac:∀id q,H' id=some q->id<J'.next) (N:∀id,H'.gh id=true->H' id=none/\id<J'.next):
 SR P H' J' w'/\w.heap.size<=w'.heap.size/\
 (∀bl,bl<w.heap.size->(∀id o q,J.get id=some o->o.own=true->J.lock<=id->H id=some q->q.bl≠bl)->w'.heap[bl]? =w.heap[bl]?)/\
 (∀id o q,J'.get id=some o->o.own=true->J.lock<=id->H' id=some q->w.heap.size<=q.bl\/∃d o0 i,J.get d=some o0/\o0.own=true/\J.lock<=d/\H d=some i/\i.bl=q.bl)/\
 (∀b,H'.ro b≠none->H.ro b≠none\/w.heap.size<=b\/∃d o0 i,J.get d=some o0/\o0.own=true/\J.lock<=d/\H d=some i/\i.bl=b):=by
 have O:∀b o q,fK upd b=none->J.get b=some o->H b=some q->q.bl<w.heap.size->w'.heap[q.bl]? =w.heap[q.bl]?:=by intro b o q s n I ad;refine a.keep _ ad ?_;intro id o2 q2 y l z A;have ae:id≠b:=λe=>MZ id o2 y l z (by rw[e];exact s);exact v.sep id o2 b o q2 q (sub _ _ y) l n ae (hi.pl _ _ A) I
 have c:∀b o q,fK upd b=some (some o)->H' b=some q->OR P H' q w' o/\rC b=some q:=by
  intro b o q s j;rcases a.rel.live b o (V b o s).1 with⟨p,Q,S⟩|⟨t,_⟩
  ·have:=h2.pl _ _ Q;rw[j]at this;cases this;exact⟨S.mono h2,Q⟩
  ·rw[(N b (h2.gh b t)).1]at j;cases j
 have m:∀id o q,J.get id=some o->H' id=some q->H id=some q/\OR P H q w o:=by
  intro id o q n j;rcases v.live id o n with⟨p,Q,S⟩|⟨t,_⟩
  ·have:=h1.pl _ _ Q;rw[j]at this;cases this;exact⟨Q,S⟩
  ·rw[(N id (h1.gh id t)).1]at j;cases j
 have T:∀b o q,fK upd b=some (some o)->rC b=some q->(w.heap.size<=q.bl)\/(∃d o0 i,τ.get d=some o0/\o0.own=true/\τ.lock<=d/\Z d=some i/\i.bl=q.bl):=by
  intro b o q s I;obtain⟨h4,W⟩:=V b o s;rcases W with⟨o0,h6,h7⟩|⟨h6,h7⟩
  ·rcases Ue.live b o0 h6 with⟨p',ab,_⟩|⟨t,_⟩
   ·have:=a.ext.pl _ _ ab;rw[I]at this;cases this;exact .inr ⟨b,o0,q,h6,h7,FD b (by rw[s];simp),ab,rfl⟩
   ·rw[(a.rel.jT b (a.ext.gh b t)).1]at I;cases I
  ·rcases a.own b o q h4 h6 (FD b (by rw[s];simp)) I with h8|h8
   ·exact .inl h8
   ·exact .inr h8
 have Oz:∀id o,J'.get id=some o->(fK upd id=some (some o))\/(fK upd id=none/\J.get id=some o):=by
  intro id o n;rw[hg]at n;cases hl:fK upd id with
  |none=>rw[hl]at n;exact .inr ⟨rfl,n⟩
  |some x=>rw[hl]at n;simp only[qP]at n;subst n;exact .inl rfl
 refine⟨⟨?_,ac,?_,N,?_,λb o s=>a.rel.ji b o (by rw[<-Uj];exact s),?_,λp Q=>(v.tabs p Q).mono h1⟩,a.size,?_,?_,?_⟩
 ·intro g af;obtain⟨sz,es,W⟩:=v.nH g af;exact⟨sz,es,h1.pl _ _ W⟩
 ·intro id o n;rcases Oz id o n with h4|⟨h4,W⟩
  ·exact(a.rel.live id o (V id o h4).1).mono h2
  ·exact((v.live id o W).heap (w:=w) λq I S=>O id o q h4 W I S.lt).mono h1
 ·intro id o h B q X y l z A a5 a6;rcases Oz id o y with k|⟨k,f⟩<;>rcases Oz h B z with Y|⟨Y,D⟩
  ·obtain⟨_,U⟩:=c id o q k a5;obtain⟨_,c4⟩:=c h B X Y a6;exact a.rel.sep id o h B _ _ (V _ _ k).1 l (V _ _ Y).1 A U c4
  ·obtain⟨_,U⟩:=c id o q k a5;obtain⟨d1,d2⟩:=m h B X D a6;rcases T id o q k U with e|⟨d,o0,i,r,u,E,F,G⟩
   ·have:=d2.lt;omega
   ·rw[<-G];exact v.sep d o0 h B i X (sub _ _ r) u D (λe=>MZ d o0 r u E (by rw[e];exact Y)) (hi.pl _ _ F) d1
  ·obtain⟨_,c4⟩:=c h B X Y a6;obtain⟨d1,d2⟩:=m id o q f a5;rcases T h B X Y c4 with e|⟨d,o0,i,r,u,E,F,G⟩
   ·have:=d2.lt;omega
   ·rw[<-G];exact v.sep id o d o0 q i f l (sub _ _ r) (λe=>MZ d o0 r u E (by rw[<-e];exact k)) d1 (hi.pl _ _ F)
  ·exact v.sep id o h B _ _ f l D A (m id o q f a5).1 (m h B X D a6).1
 ·intro id o q y l z;rcases Oz id o y with k|⟨k,f⟩
  ·obtain⟨_,U⟩:=c id o q k z;rw[Uj];exact a.rel.lS id o q (V _ _ k).1 l U
  ·obtain⟨d1,d2⟩:=m id o q f z;cases S:H'.ro q.bl with
   |none=>rfl
   |some o2=>
    exfalso;rcases a.qK q.bl (by rw[<-Uj,S];simp)with e|e|⟨d,o0,i,r,u,E,F,G⟩
    ·rw[aa,v.lS id o q f l d1]at e;exact e rfl
    ·have:=d2.lt;omega
    ·exact v.sep d o0 id o i q (sub _ _ r) u f (λe=>MZ d o0 r u E (by rw[e];exact k)) (hi.pl _ _ F) d1 G
 ·intro bl ag ai;exact a.keep bl ag λid o q y l z A=>ai id o q (sub _ _ y) l (jP L z) (hi.pl _ _ A)
 ·intro id o q y l z A;rcases Oz id o y with k|⟨k,f⟩
  ·obtain⟨_,U⟩:=c id o q k A;rcases T id o q k U with e|⟨d,o0,i,r,u,E,F,G⟩
   ·exact .inl e
   ·exact .inr ⟨d,o0,i,sub _ _ r,u,jP L E,hi.pl _ _ F,G⟩
  ·obtain⟨d1,_⟩:=m id o q f A;exact .inr ⟨id,o,q,f,l,z,d1,rfl⟩
 ·intro b s;rcases a.qK b (by rw[<-Uj];exact s)with e|e|⟨d,o0,i,r,u,E,F,G⟩
  ·rw[aa]at e;exact .inl e
  ·exact .inr (.inl e)
  ·exact .inr (.inr ⟨d,o0,i,sub _ _ r,u,jP L E,hi.pl _ _ F,G⟩)
def St.then{H0 H H':Env}{J0 J J':aA}{w0 w w':World}(h:St P H0 J0 w0 H J w)(n:H.le H')(rel:SR P H' J' w')(size:w.heap.size<=w'.heap.size)
 (keep:∀bl,bl<w.heap.size->(∀id o q,J.get id=some o->o.own=true->J.lock<=id->H id=some q->q.bl≠bl)->w'.heap[bl]? =w.heap[bl]?)
 (own:∀id o q,J'.get id=some o->o.own=true->J.lock<=id->H' id=some q->w.heap.size<=q.bl\/∃f o0 g,J.get f=some o0/\o0.own=true/\J.lock<=f/\H f=some g/\g.bl=q.bl)
 (os:w'.os=w.os) (tape:w'.tape=w.tape) (output:w'.output=w.output) (lock:J'.lock=J.lock) (next:J.next<=J'.next)
 (new:∀id,H'.has id->H.has id\/(J0.next<=id/\id<J'.next))
 (qK:∀b,H'.ro b≠none->H.ro b≠none\/w.heap.size<=b\/∃f o0 g,J.get f=some o0/\o0.own=true/\J.lock<=f/\H f=some g/\g.bl=b):St P H0 J0 w0 H' J' w':=by
 refine⟨h.ext.trans n,rel,jP h.size size,?_,?_,os.trans h.os,tape.trans h.tape,output.trans h.output,lock.trans h.lock,jP h.next next,?_,?_⟩
 ·intro bl j k;rw[keep bl (xG j h.size) ?_,h.keep bl j k];intro id o q h1 m i l;rcases h.own id o q h1 m (h.lock▸i) l with x|⟨f,o0,g,a,b,c,d,e⟩
  ·omega
  ·rw[<-e];exact k f o0 g a b c d
 ·intro id o q h1 m i l;rcases own id o q h1 m (by rw[h.lock];exact i) l with x|⟨f,o0,g,a,b,c,d,e⟩
  ·exact .inl (jP h.size x)
  ·rcases h.own f o0 g a b (h.lock▸c) d with L|⟨p,o1,y,r,s,t,d1,u⟩
   ·left;omega
   ·exact .inr ⟨p,o1,y,r,s,t,d1,u.trans e⟩
 ·intro id z;rcases new id z with h1|h1
  ·rcases h.new id h1 with i|⟨i,l⟩
   ·exact .inl i
   ·exact .inr ⟨i,xG l next⟩
  ·exact .inr h1
 ·intro b A;rcases qK b A with h1|h1|⟨f,o0,g,r,s,t,d1,u⟩
  ·exact h.qK b h1
  ·exact .inr (.inl (jP h.size h1))
  ·rcases h.own f o0 g r s (h.lock▸t) d1 with m|⟨v,B,D,E,F,G,d2,I⟩
   ·right;left;omega
   ·exact .inr (.inr ⟨v,B,D,E,F,G,d2,I.trans u⟩)
def kS(rs:We):List (List (Nat×Q4)):=rs.map (·.slot)
def gW(rs:We):List Wz:=rs.map (·.upd)
def jA:Nat->List dM->Nat->Nat
 |c,_,0=>c
 |c,[],_=>c
 |_,r::rs,k+1=>jA r.next rs k
def aeo{call:Caller}{ops:W4}{M:Q2}{N0 b l n:Nat}:∀(m:Nat)(a:We)(i:Nat)(t:Tr AV)(h:Tr bC)(c:Nat)(rs:We)(e:Tr AV)(f:Tr bC)(g:Nat),
 OL P call ops M N0 b l n m a i t h c=some (rs,e,f,g)->∃new,rs=a++new/\new.length=m/\e=jo (kS new) t/\f=jo (gW new) h/\g=jA c new m/\
  ∀(k:Nat) r,new[k]? =some r->xU P call ops M N0 b l n (a++new.take k) (i+k) (jo ((kS new).take k) t) (jo ((gW new).take k) h) (jA c new k)=some r
 |0,a,i,t,h,c,rs,e,f,g,d=>by simp only[OL,aZ,og]at d;obtain⟨rfl,rfl,rfl,rfl⟩:=d;exact⟨[],by simp,rfl,rfl,rfl,rfl,by simp⟩
 |m+1,a,i,t,h,c,rs,e,f,g,d=>by
  unfold OL at d;split at d
  ·cases d
  ·next r o=>
   obtain⟨new,p,q,u,v,w,x⟩:=aeo m _ _ _ _ _ _ _ _ _ d;refine⟨r::new,by rw[p];simp,by simp[q],?_,?_,?_,?_⟩
   ·rw[u];rfl
   ·rw[v];rfl
   ·rw[w];rfl
   ·intro k s j;cases k with
    |zero=>simp at j;subst j;simpa[jo,kS,gW,jA]using o
    |succ k=>have:=x k s (by simpa using j);rw[show i+1+k=i+(k+1) by omega]at this;simp only[List.append_assoc,Az]at this;simpa[kS,gW,jo,jA]using this
def aqm{call:Caller}{ops:W4}{M:Q2}{N0 b e n i c:Nat}{d:We}{t:Tr AV}{h:Tr bC}{r:dM}(a:Bf P call ops M N0 b e n d i t h c=some r):r.base=c:=by
 unfold Bf at a;split at a
 ·cases a
 ·simp only at a;split at a
  ·cases a
  ·cases a;rfl
  ·split at a
   ·split at a
    ·cases a;rfl
    ·cases a
   ·split at a
    ·split at a
     ·split at a
      ·cases a;rfl
      ·cases a
     ·cases a
    ·split at a
     ·split at a
      ·cases a;rfl
      ·cases a
     ·cases a
    ·split at a
     ·split at a
      ·cases a;rfl
      ·cases a
     ·cases a
    ·split at a
     ·cases a;rfl
     ·split at a
      ·split at a
       ·cases a;rfl
       ·cases a
      ·cases a
def aqn{call:Caller}{ops:W4}{M:Q2}{N0 d f n i c:Nat}{e:We}{t:Tr AV}{h:Tr bC}{r:dM}(a:Bf P call ops M N0 d f n e i t h c=some r):∃o v,ops[i]? =some o/\r.slot=qE o v:=by
 unfold Bf at a;split at a
 ·cases a
 ·next o b=>
  simp only at a;split at a
  ·cases a
  ·cases a;exact⟨o,_,b,rfl⟩
  ·split at a
   ·split at a
    ·cases a;exact⟨o,_,b,rfl⟩
    ·cases a
   ·split at a
    ·split at a
     ·split at a
      ·cases a;exact⟨o,_,b,rfl⟩
      ·cases a
     ·cases a
    ·split at a
     ·split at a
      ·cases a;exact⟨o,_,b,rfl⟩
      ·cases a
     ·cases a
    ·split at a
     ·split at a
      ·cases a;exact⟨o,_,b,rfl⟩
      ·cases a
     ·cases a
    ·split at a
     ·cases a;exact⟨o,_,b,rfl⟩
     ·split at a
      ·split at a
       ·cases a;exact⟨o,_,b,rfl⟩
       ·cases a
      ·cases a
def aqp{call:Caller}{ops:W4}{M:Q2}{N0 b e n i c:Nat}{d:We}{t:Tr AV}{h:Tr bC}{r:dM}(a:Bf P call ops M N0 b e n d i t h c=some r):r.fin=none:=by
 unfold Bf at a;split at a
 ·cases a
 ·simp only at a;split at a
  ·cases a
  ·cases a;rfl
  ·split at a
   ·split at a
    ·cases a;rfl
    ·cases a
   ·split at a
    ·split at a
     ·split at a
      ·cases a;rfl
      ·cases a
     ·cases a
    ·split at a
     ·split at a
      ·cases a;rfl
      ·cases a
     ·cases a
    ·split at a
     ·split at a
      ·cases a;rfl
      ·cases a
     ·cases a
    ·split at a
     ·cases a;rfl
     ·split at a
      ·split at a
       ·cases a;rfl
       ·cases a
      ·cases a
def aqo{call:Caller}{ops:W4}{M:Q2}{N0 b e n i c:Nat}{d:We}{t:Tr AV}{h:Tr bC}{r:dM}(a:xU P call ops M N0 b e n d i t h c=some r):r.base=c:=by
 unfold xU at a;split at a
 ·unfold KR at a;split at a
  ·cases a
  ·split at a
   ·cases a
   ·cases a;rfl
   ·split at a
    ·cases a;rfl
    ·cases a
 ·exact aqm a
def aqr{call:Caller}{ops:W4}{M:Q2}{N0 b f n i c:Nat}{d:We}{t:Tr AV}{h:Tr bC}{r:dM}(a:xU P call ops M N0 b f n d i t h c=some r):∃o v,ops[i]? =some o/\r.slot=qE o v:=by
 unfold xU at a;split at a
 ·unfold KR at a;split at a
  ·cases a
  ·next o e=>
   split at a
   ·cases a
   ·cases a;exact⟨o,_,e,rfl⟩
   ·split at a
    ·cases a;exact⟨o,_,e,rfl⟩
    ·cases a
 ·exact aqn a
structure qO(ops:W4)(M:Q2)(rs:We)(n N0:Nat):Prop where
 hM:M=mQ ops.toList []
 mok:PK M 0=true
 len:rs.length=ops.size
 pairs:∀(i j:Nat) r s,rs[i]? =some r->rs[j]? =some s->yx M i j=true->P7 ops N0 i j r s=true
 slot:∀(i:Nat) r,rs[i]? =some r->r.base<=r.next/\∀p∈r.slot,p.1<n
structure Ctx(P:Program)(call:Caller)(ops:W4)(M:Q2)(rs:We)(a0:bn)(J0:aA)(cf:Nat):Prop extends qO ops M rs a0.n J0.next where
 one:∀(i:Nat) r,rs[i]? =some r->xU P call ops M J0.next J0.lock a0.gn a0.n (rs.take i) i (jo ((kS rs).take i) a0.t) (jo ((gW rs).take i) J0.h) (jA (J0.next+ops.size) rs i)=some r
 fin:cf=jA (J0.next+ops.size) rs ops.size
 big:cf<=tJ
 lock:J0.lock<=J0.next
section
variable{call:Caller}{ops:W4}{M:Q2}{rs:We}{a0:bn}{J0:aA}{cf nn N0:Nat}
def Ov:∀(rs:We)(c k:Nat)(r:dM),rs[k]? =some r->jA c rs (k+1)=r.next
 |[],c,k,r,h=>by simp at h
 |s::rs,c,0,r,h=>by simp at h;subst h;cases rs<;>rfl
 |s::rs,c,k+1,r,h=>by
  show jA s.next rs (k+1)=r.next
  exact Ov rs s.next k r (by simpa using h)
def Ctx.base(C:Ctx P call ops M rs a0 J0 cf){i:Nat}{r:dM}(h:rs[i]? =some r):r.base=jA (J0.next+ops.size) rs i:=aqo (C.one i r h)
def Ctx.mono(C:Ctx P call ops M rs a0 J0 cf):∀(k i:Nat),i+k<=rs.length->jA (J0.next+ops.size) rs i<=jA (J0.next+ops.size) rs (i+k)
 |0,i,_=>dY _
 |k+1,i,h=>by
  have c:=C.mono k i (by omega);have a:i+k<rs.length:=by omega
  have b:rs[i+k]? =some rs[i+k]:=bP a;have:=(C.slot _ _ b).1;rw[C.base b]at this;rw[show i+(k+1)=(i+k)+1 by omega,Ov rs _ _ _ b];omega
def Ctx.lt(C:Ctx P call ops M rs a0 J0 cf){i j:Nat}{r s:dM}(hi:rs[i]? =some r)(a:rs[j]? =some s)(h:i<j):r.next<=s.base:=by have b:=(fB.1 a).1;have:=C.mono (j-(i+1)) (i+1) (by omega);rw[Ov rs _ _ _ hi,show i+1+(j-(i+1))=j by omega]at this;rw[C.base a];exact this
def Ctx.lo(C:Ctx P call ops M rs a0 J0 cf){i:Nat}{r:dM}(hi:rs[i]? =some r):J0.next+ops.size<=r.base:=by have:=C.mono i 0 (by have:=(fB.1 hi).1;omega);rw[C.base hi];simpa[jA]using this
def Ctx.hi(C:Ctx P call ops M rs a0 J0 cf){i:Nat}{r:dM}(hi:rs[i]? =some r):r.next<=cf:=by have a:=(fB.1 hi).1;have:=C.mono (ops.size-(i+1)) (i+1) (by have:=C.len;omega);rw[Ov rs _ _ _ hi,show i+1+(ops.size-(i+1))=ops.size by have:=C.len;omega]at this;rw[C.fin];exact this
def Ctx.X5(C:Ctx P call ops M rs a0 J0 cf):J0.next+ops.size<=cf:=by have:=C.mono ops.size 0 (by have:=C.len;omega);rw[C.fin];simpa[jA]using this
def qO.mask(C:qO ops M rs nn N0){i:Nat}{o:Oper}(b:ops[i]? =some o):M[i]? =some (zW (λj=>(M.take i).getD j 0) o.after.toList)/\M.length=ops.size:=by obtain⟨a,_,c⟩:=agP ops.toList [];have:=c i o (by simpa using b);simp only[nZ,jQ]at this a;rw[C.hM];exact⟨this,by simpa using a⟩
def Closed(ops:W4)(D:Nat->Bool):Prop:=∀i o,D i=true->ops[i]? =some o->∀e∈o.after.toList,Region.binds .any e=true->D e.on=true
def qO.qQ(C:qO ops M rs nn N0){D:Nat->Bool}(k:Closed ops D):∀(i:Nat)(o:Oper),ops[i]? =some o->(∀e∈o.after.toList,Region.binds .any e=true->D e.on=true)->∀j,uw M j i=true->D j=true:=by
 intro i;induction i using Nat.strongRecOn with
 |_ i l=>
  intro o m n j c;obtain⟨p,t⟩:=C.mask m;unfold uw at c;rw[yB,p]at c;obtain⟨e,q,r,h1⟩:=ZW c;have a:=n e q r;rcases h1 with rfl|h1
  ·exact a
  ·rw[yB,mG]at h1;split at h1
   ·next d=>
    by_cases f:e.on<ops.size
    ·have b:ops[e.on]? =some ops[e.on]:=by simp[f]
     refine l e.on d ops[e.on] b (λs g h=>k e.on _ a b s g h) j ?_;unfold uw;rw[yB];exact h1
    ·rw[sZ (by omega)]at h1;simp at h1
   ·simp at h1
def qO.aak(C:qO ops M rs nn N0){i j:Nat}(h:uw M j i=true):j<i:=by
 unfold uw at h;rw[yB]at h;cases b:M[i]? with
 |none=>rw[b]at h;simp at h
 |some m=>rw[b]at h;have a:=agQ M 0 C.mok i m b;simp only[jQ,qP]at a h;exact Nat.lt_of_not_le λc=>by have:=Nat.testBit_lt_two_pow (xG a (J7 (by omega) c));rw[this]at h;cases h
def qO.open_(C:qO ops M rs nn N0){D:Nat->Bool}(c:Closed ops D){i j:Nat}{o:Oper}(k:ops[i]? =some o)(hi:D i=false)(l:∀e∈o.after.toList,Region.binds .any e=true->D e.on=true)
 (m:j<ops.size) (a:D j≠decide (j<i)):yx M i j=true:=by
 have d:i≠j:=by rintro rfl;rw[hi]at a;simp at a
 have n:uw M j i=false:=by
  cases h:uw M j i with
  |false=>rfl
  |true=>have f:=C.qQ c i o k l j h;have g:=C.aak h;rw[f]at a;simp[g]at a
 have f:uw M i j=false:=by
  cases h:uw M i j with
  |false=>rfl
  |true=>
   have g:=C.aak h;have p:D j=true:=by
    cases q:D j with
    |true=>rfl
    |false=>rw[q]at a;simp at a;omega
   have b:ops[j]? =some ops[j]:=by simp[m]
   have:=C.qQ c j _ b (λe r s=>c j _ p b e r s) i h;rw[this]at hi;cases hi
 unfold yx;rw[Gm d,n,f];rfl
def OT{l m:Q2}(h:pI l m=true){b:Nat}(a:b∈l):b∉m:=by unfold pI at h;rw[List.all_eq_true]at h;have:=h b a;simpa using this
