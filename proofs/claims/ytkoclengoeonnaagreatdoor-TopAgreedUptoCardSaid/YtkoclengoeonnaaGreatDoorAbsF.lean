/- Regions whose order Go leaves open: the evaluator goes by the text, and looks whether another order could make a difference. -/
import Derived.Test.YtkoclengoeonnaaGreatDoorAbsE
set_option linter.all false
namespace Go.aP
noncomputable section
variable[gQ]
def Am(get:Nat->Nat):List Edge->Nat
 |[]=>0
 |e::es=>if Region.binds .any e then(2^e.on |||get e.on) |||Am get es else Am get es
def mM:List Oper->List Nat->List Nat
 |[],a=>a
 |o::os,a=>mM os (a++[Am (λk=>a.getD k 0) o.after.toList])
def uT(M:Q2)(j i:Nat):Bool:=(M.getD i 0).testBit j
def yH(M:Q2)(i j:Nat):Bool:=!(Nat.beq i j)&&!(uT M j i)&&!(uT M i j)
def Qa:Q2->Nat->Bool
 |[],_=>true
 |m::a,i=>Nat.blt m (2^i)&&Qa a (i+1)
def Fj{α:Type}:List (Nat×Option α)->Tr α->Tr α
 |[],t=>t
 |(k,v)::l,t=>Fj l (t.set k v)
def lg{α:Type}(t:Tr α):Q2->Tr α
 |[]=>.nil
 |k::l=>(lg t l).set k (t.get k)
def FV{α:Type}(t:Tr α):Q2->Tr α
 |[]=>t
 |k::l=>FV (t.set k none) l
mutual
def AV.under(c:Nat):AV->Bool
 |.p id _=>Nat.blt id c
 |.sl id _ _ _=>Nat.blt id c
 |.mp id=>Nat.blt id c
 |.fn _ fi cs=>AV.pW c fi&&AV.pW c cs
 |.jh _ a=>a.under c
 |.agg l=>AV.pW c l
 |.dU l=>AV.pW c l
 |.ro l=>AV.pW c l
 |.rp a _=>a.under c
 |.sv id _=>Nat.blt id c
 |.pv id _ _=>Nat.blt id c
 |.pd id _=>Nat.blt id c
 |_=>true
def AV.pW(c:Nat):Q3->Bool
 |[]=>true
 |a::l=>a.under c&&AV.pW c l
end
def Bl(c:Nat):bG->Bool
 |.cells l _ _ _=>AV.pW c l
 |.iter _ _=>true
 |.map es=>es.all λe=>e.1.under c&&e.2.under c
 |.iterM (some m)=>Nat.blt m c
 |.iterM none=>true
 |.vec _ _ _=>true
 |.smap _ _ _=>true
 |.pmap es=>es.all λe=>e.2.under c
def Ou(c:Nat)(h:Tr bG):Q2->Bool
 |[]=>true
 |k::l=>Nat.blt k c&&(match h.get k with|some o=>Bl c o|none=>true)&&Ou c h l
def KT(c:Nat)(t:Tr AV):Q2->Bool
 |[]=>true
 |k::l=>(match t.get k with|some v=>v.under c|none=>true)&&KT c t l
structure dJ where
 slot:List (Nat×Q4)
 upd:WN
 vis:Option Q2
 loc:Q2
 base:Nat
 next:Nat
 fin:Option aC:=none
abbrev Wk:=List dJ
inductive Cls where
 |na (vis:Q2)
 |wr (w:Q2)
 |sa (w:Q2)
 |ca
def as2:AV->List Nat
 |.p id _=>[id]
 |.sl id _ _ _=>[id]
 |.mp id=>[id]
 |.sv id _=>[id]
 |.pv id _ _=>[id]
 |.pd id _=>[id]
 |_=>[]
def yw(b:QP)(x:Operand):Q2:=match b x with|some a=>as2 a|none=>[]
def aeF(o:Oper)(b:QP):Cls:=
 match o.op with
 |.load _ a=>.na (yw b a)
 |.indexAddr _ x _=>.na (yw b x)
 |.store _ a _=>.wr (yw b a)
 |.box .. |.buildSlice .. |.makeSlice .. |.makeMap ..=>.sa []
 |.convert _ _ x=>.sa (yw b x)
 |.slice _ x _ _ _=>.na (yw b x)
 |.lookup _ m _ _=>.na (yw b m)
 |.mapUpdate _ m _ _|.insert _ m _ _=>.wr (yw b m)
 |.range _ x=>.sa (yw b x)
 |.next d _=>.wr (yw b d)
 |.call c=>match c.callee with
  |.builtin .len=>.na (c.args.toList.flatMap (yw b))
  |.builtin .append|.builtin .copy|.builtin .clear=>.sa (c.args.toList.flatMap (yw b))
  |.builtin .unsafeSliceData=>.na (c.args.toList.flatMap (yw b))
  |.builtin .unsafeString=>.wr (c.args.toList.flatMap (yw b))
  |.builtin _=>.na []
  |_=>.ca
 |_=>.na []
def uz:Nat:=2^64
def qN(o:Oper)(v:Q4):List (Nat×Q4):=match o.dst with|some d=>[(d,v)]|none=>[]
def F5(τ:aC):Nat->Nat->List (Nat×Option bG)
 |_,0=>[]
 |c,n+1=>(c,match τ.get c with|some o=>if o.own then some o else none|none=>none)::F5 τ (c+1) n
def keysOf{α:Type}(l:List (Nat×Option α)):Q2:=l.map (·.1)
def Ep(M:Q2)(i:Nat):Wk->Nat->List Nat
 |[],_=>[]
 |r::rs,j=>if yH M i j then keysOf r.upd++Ep M i rs (j+1)else Ep M i rs (j+1)
def P6(M:Q2)(i:Nat):Wk->Nat->List Nat
 |[],_=>[]
 |r::rs,j=>if yH M i j then P6 M i rs (j+1)else keysOf r.upd++P6 M i rs (j+1)
def Jy(h:Tr bG)(a:Nat)(l:Q2):Q2:=l.filter λk=>Nat.ble a k&&(match h.get k with|some o=>o.own|none=>false)
mutual
def KQ:AV->List Nat
 |.p id _|.sl id _ _ _|.mp id|.sv id _|.pv id _ _|.pd id _=>[id]
 |.fn _ fs cs=>KR fs++KR cs
 |.jh _ v=>KQ v
 |.agg l=>KR l
 |.dU l=>KR l
 |_=>[]
def KR:Q3->List Nat
 |[]=>[]
 |a::l=>KQ a++KR l
end
def avi:bG->List Nat
 |.cells l _ _ _=>KR l
 |.map es=>es.flatMap λe=>KQ e.1++KQ e.2
 |.pmap es=>es.flatMap λe=>KQ e.2
 |.iterM (some m)=>[m]
 |_=>[]
def abC(h:Tr bG):Nat->List Nat->List Nat->List Nat
 |0,_,seen=>seen
 |_+1,[],seen=>seen
 |f+1,k::a,seen=>bif seen.contains k then abC h f a seen else abC h f ((match h.get k with|some o=>avi o|none=>[])++a) (k::seen)
def Qw(o:Oper)(a:QP)(h:Tr bG):Q2:=
 abC h 1000 (o.op.operands.toList.flatMap λx=>match a x with|some v=>KQ v|none=>[]) []
def aup(ops:W5)(j:Nat):Bool:=match ops[j]? with
 |some o=>match o.op with
  |.buildSlice .. |.makeSlice .. |.makeMap ..=>true
  |_=>false
 |none=>false
def atB(ops:W5)(M:Q2)(i:Nat):Bool:=(List.range ops.size).any λj=>Nat.blt i j&&aup ops j&&yH M i j
def akj{α:Type}(b:Bool)(x:Unit->Option α):Option α:=bif b then none else x ()
def aBE{α:Type}{b:Bool}{x:Unit->Option α}{y:α}(h:akj b x=some y):x ()=some y:=by
 cases b with
 |true=>cases h
 |false=>exact h
def BA(P:Program)(call:Caller)(ops:W5)(M:Q2)(N0 lock gn n:Nat)(b:Wk)(i:Nat)(t:Tr AV)(h:Tr bG)(c:Nat):Option dJ:=
 match ops[i]? with
 |none=>none
 |some o=>
  let a:bF:={t:=lg t (o.looksAt ops),n:=n,gn:=gn}
  match J4 o ops a with
  |none=>none
  |some false=>some {slot:=qN o (some (.dU [])),upd:=[],vis:=some [],loc:=[],base:=c,next:=c}
  |some true=>
   match o.op with
   |.alloc d=>match zC P d with
    |some z=>some {slot:=qN o (some (.p (N0+i) 0)),upd:=[(N0+i,some (.cells z d true false))],vis:=some [],loc:=[],base:=c,next:=c}
    |none=>none
   |_=>
    match aeF o a.eval with
    |.na l=>
     match Ac P call o a.eval {h:=lg h l,next:=uz,lock:=uz}with
     |some (v,τ)=>if Nat.beq τ.next uz then some {slot:=qN o v,upd:=[],vis:=some l,loc:=[],base:=c,next:=c}else none
     |none=>none
    |.wr l=>
     match Ac P call o a.eval {h:=lg h l,next:=uz,lock:=lock}with
     |some (v,τ)=>if Nat.beq τ.next uz then some {slot:=qN o v,upd:=(Jy h lock l).map λk=>(k,τ.get k),vis:=some l,loc:=[],base:=c,next:=c}else none
     |none=>none
    |.sa l=>
     if KT c t (o.looksAt ops)&&Ou c h l then
      match Ac P call o a.eval {h:=lg h l,next:=c,lock:=lock}with
      |some (v,τ)=>some {slot:=qN o v,upd:=((Jy h lock l).map λk=>(k,τ.get k))++F5 τ c (τ.next-c),vis:=some l,loc:=[],base:=c,next:=τ.next}
      |none=>none
     else none
    |.ca=>
     match akj (atB ops M i) (λ_=>Ac P call o a.eval {h:=FV h (Ep M i b 0),next:=c,lock:=c})with
     |some (v,τ)=>some {slot:=qN o v,upd:=F5 τ c (τ.next-c),vis:=none,loc:=P6 M i b 0,base:=c,next:=τ.next}
     |none=>
      if KT c t (o.looksAt ops)&&Ou c h (Qw o a.eval h)then
       match Ac P call o a.eval {h:=lg h (Qw o a.eval h),next:=c,lock:=lock}with
       |some (v,τ)=>some {slot:=qN o v,upd:=((Jy h lock (Qw o a.eval h)).map λk=>(k,τ.get k))++F5 τ c (τ.next-c),vis:=some (Qw o a.eval h),loc:=[],base:=c,next:=τ.next}
       |none=>none
      else none
def DX(o:Oper):Bool:=match o.op with
 |.move _|.assign _|.binOp .. |.extract ..=>true
 |_=>false
def nS(ops:W5)(i:Nat):Bool:=match ops[i]? with|some o=>DX o|none=>false
def WS(ops:W5)(M:Q2):Nat->Nat
 |0=>0
 |k+1=>if(nS ops k ||(List.range k).all λj=>nS ops j ||uT M j k)=true then WS ops M k else k+1
def nX(ops:W5)(M:Q2)(i:Nat):Bool:=Nat.ble (WS ops M ops.size) i&&!(nS ops i)
def wB:Wk->aC->aC
 |[],J=>J
 |r::rs,J=>wB rs (match r.fin with|some τ=>τ|none=>J)
def Lh(P:Program)(call:Caller)(ops:W5)(lock gn n:Nat)(a:Wk)(i:Nat)(t:Tr AV)(h:Tr bG)(c:Nat):Option dJ:=
 match ops[i]? with
 |none=>none
 |some o=>
  match J4 o ops {t:=lg t (o.looksAt ops),n:=n,gn:=gn}with
  |none=>none
  |some false=>some {slot:=qN o (some (.dU [])),upd:=[],vis:=some [],loc:=[],base:=c,next:=c,fin:=some (wB a {h:=h,next:=c,lock:=lock})}
  |some true=>match Ac P call o (bF.eval {t:=lg t (o.looksAt ops),n:=n,gn:=gn}) (wB a {h:=h,next:=c,lock:=lock})with
   |some (v,τ)=>some {slot:=qN o v,upd:=[],vis:=some [],loc:=[],base:=c,next:=c,fin:=some τ}
   |none=>none
def yj(P:Program)(call:Caller)(ops:W5)(M:Q2)(N0 a d n:Nat)(b:Wk)(i:Nat)(t:Tr AV)(h:Tr bG)(c:Nat):Option dJ:=
 if nX ops M i=true then Lh P call ops a d n b i t h c else BA P call ops M N0 a d n b i t h c
def OZ(P:Program)(call:Caller)(ops:W5)(M:Q2)(N0 b d n:Nat):Nat->List dJ->Nat->Tr AV->Tr bG->Nat->Option (Wk×Tr AV×Tr bG×Nat)
 |0,a,_,t,h,c=>some (a,t,h,c)
 |m+1,a,i,t,h,c=>
  match yj P call ops M N0 b d n a i t h c with
  |none=>none
  |some r=>OZ P call ops M N0 b d n m (a++[r]) (i+1) (Fj r.slot t) (Fj r.upd h) r.next
def qj(l m:Q2):Bool:=l.all λk=>!(m.contains k)
def Qn(ops:W5)(N0:Nat)(i j:Nat)(r s:dJ):Bool:=
 let a:=keysOf s.upd
 qj (keysOf r.slot) (keysOf s.slot)&&
 (match ops[i]? with|some o=>qj (o.looksAt ops) (keysOf s.slot)|none=>false)&&
 qj (keysOf r.upd) a&&
 (match r.vis with
  |some l=>qj l a
  |none=>Nat.blt j i ||(a.all (Nat.ble N0 ·)&&qj r.loc a&&Nat.beq s.base s.next))
def ajL(ops:W5)(i j:Nat):Bool:=
 match ops[i]?,ops[j]? with
 |some o,some b=>
  match b.dst with
  |none=>true
  |some a=>(match o.dst with|some d=>!(Nat.beq d a)|none=>true)&&!((o.looksAt ops).contains a)
 |_,_=>false
def ab1(ops:W5)(M:Q2):Bool:=
 (List.range ops.size).all λi=>(List.range ops.size).all λj=>!(yH M i j) ||ajL ops i j
def TN(N0 i j:Nat)(r s:dJ):Bool:=
 qj (keysOf r.upd) (keysOf s.upd)&&
 (match r.vis with
  |some l=>qj l (keysOf s.upd)
  |none=>Nat.blt j i ||((keysOf s.upd).all (Nat.ble N0 ·)&&qj r.loc (keysOf s.upd)&&Nat.beq s.base s.next))
def YM(M:Q2)(N0:Nat)(rs:Wk):Bool:=
 rs.zipIdx.all λ(s,j)=>(s.upd.isEmpty&&Nat.beq s.base s.next) ||rs.zipIdx.all λ(r,i)=>!(yH M i j) ||TN N0 i j r s
def ae8(l:Q2):qj l []=true:=by unfold qj;simp
def avV{ops:W5}{M:Q2}{N0:Nat}{rs:Wk}(a:ab1 ops M=true)(b:YM M N0 rs=true)(x:∀(i:Nat) r,rs[i]? =some r->∃o v,ops[i]? =some o/\r.slot=qN o v):
 ∀(i j:Nat) r s,rs[i]? =some r->rs[j]? =some s->yH M i j=true->Qn ops N0 i j r s=true:=by
 intro i j r s y z A;obtain⟨o,v,m,n⟩:=x i r y;obtain⟨E,J,f,p⟩:=x j s z;have q:i<ops.size:=(qI.1 m).1;have t:j<ops.size:=(qI.1 f).1;unfold ab1 at a;rw[List.all_eq_true]at a;have B:=a i (by simpa using q);rw[List.all_eq_true]at B;have c:=B j (by simpa using t);rw[A]at c;simp only[Xt,AL,ajL,m,f]at c;have h:TN N0 i j r s=true:=by
  unfold YM at b;rw[List.all_eq_true]at b;have g:=b (s,j) (by rw[akP];simpa using z);simp only[nO,aO]at g;rcases g with⟨l,F⟩|g
  ·have G:s.upd=[]:=by simpa using l
   unfold TN;rw[G];simp only[keysOf,jg,ae8,ac3,F,Bool.and_self,Bool.or_true];cases r.vis<;>rfl
  ·rw[List.all_eq_true]at g;have l:=g (r,i) (by rw[akP];simpa using y);simp only[A,Xt,AL]at l;exact l
 unfold TN at h;rw[aO]at h;unfold Qn;rw[m];simp only[n,p,h.1,h.2,Q5];unfold qN;cases u:E.dst with
 |none=>simp[keysOf,ae8]
 |some D=>
  rw[u]at c;simp only[aO]at c;rw[aO];constructor
  ·cases H:o.dst with
   |none=>simp[keysOf,qj]
   |some d=>
    rw[H]at c;have:=c.1;simp only[keysOf,iC,jg,qj,qJ,ac3,Q5,zG]at this⊢;rw[List.contains_cons];simp only[List.contains_nil,NT];cases w:d==D with
    |false=>rfl
    |true=>have e:=eq_of_beq w;subst e;simp at this
  ·have:=c.2;simp only[keysOf,iC,jg,qj,List.all_eq_true,zG]at this⊢;intro k I;rw[List.contains_cons];simp only[List.contains_nil,NT];cases w:k==D with
   |false=>rfl
   |true=>have e:=eq_of_beq w;subst e;rw[ac6.2 I]at this;cases this
def ajC(n:Nat)(rs:Wk):Bool:=rs.all λr=>Nat.ble r.base r.next&&r.slot.all λp=>Nat.blt p.1 n
def XT(P:Program)(call:Caller)(ops:W5)(a:bF)(J:aC):Option (bF×aC):=
 let M:=mM ops.toList []
 let N0:=J.next
 if Qa M 0&&Nat.ble J.lock J.next then
  match OZ P call ops M N0 J.lock a.gn a.n ops.size [] 0 a.t J.h (N0+ops.size)with
  |some (rs,t,h,c)=>
   if ab1 ops M&&YM M N0 rs&&ajC a.n rs&&Nat.ble c uz then
    some ({a with t:=t},wB rs {h:=h,next:=c,lock:=J.lock})
   else none
  |none=>none
 else none
def XR(P:Program)(call:Caller)(ops:W5)(a:bF)(J:aC):Option (bF×aC):=
 XT P call ops a J
end
noncomputable section
variable[aJ]
def Gq{a b:Nat}(h:a≠b):Nat.beq a b=false:=by
 cases e:Nat.beq a b with
 |false=>rfl
 |true=>exact absurd (bM e) h
section
variable{α:Type}
def fV:List (Nat×Option α)->Nat->Option (Option α)
 |[],_=>none
 |(k,v)::l,b=>match fV l b with
  |some x=>some x
  |none=>if b=k then some v else none
def Y8:∀(l:List (Nat×Option α))(t:Tr α)(b:Nat),(Fj l t).get b=(fV l b).getD (t.get b)
 |[],t,b=>rfl
 |(k,v)::l,t,b=>by
  rw[Fj,Y8 l,fV];cases fV l b with
  |some x=>rfl
  |none=>simp only[um,Tr.uN];split<;>rfl
def yY:∀(l:List (Nat×Option α))(b:Nat),fV l b≠none↔b∈keysOf l
 |[],b=>by simp[fV,keysOf]
 |(k,v)::l,b=>by
  have a:=yY l b;simp only[keysOf,iC,bJ]at a⊢;rw[fV];cases h:fV l b with
  |some x=>rw[h]at a;simp only[ne_eq,reduceCtorEq,not_false_eq_true,true_iff]at a;simp[a]
  |none=>rw[h]at a;simp only[ne_eq,not_true_eq_false,false_iff]at a;simp only[a,or_false];split<;>simp_all
def P7{l:List (Nat×Option α)}{b:Nat}(h:b∉keysOf l):fV l b=none:=by
 cases a:fV l b with
 |none=>rfl
 |some x=>exact absurd ((yY l b).1 (by rw[a];simp)) h
def lM:List (List (Nat×Option α))->Nat->(Nat->Bool)->Nat->Option (Option α)
 |[],_,_,_=>none
 |u::a,k,D,b=>match lM a (k+1) D b with
  |some x=>some x
  |none=>if D k=true then fV u b else none
def ku:List (List (Nat×Option α))->Nat->(Nat->Bool)->Tr α->Tr α
 |[],_,_,t=>t
 |u::a,k,D,t=>ku a (k+1) D (if D k=true then Fj u t else t)
def D5:∀(a:List (List (Nat×Option α)))(k:Nat)(D:Nat->Bool)(t:Tr α)(b:Nat),(ku a k D t).get b=(lM a k D b).getD (t.get b)
 |[],_,_,_,_=>rfl
 |u::a,k,D,t,b=>by
  rw[ku,D5 a,lM];cases lM a (k+1) D b with
  |some x=>rfl
  |none=>
   simp only[um];split
   ·rw[Y8]
   ·rfl
def jw:List (List (Nat×Option α))->Tr α->Tr α
 |[],t=>t
 |u::a,t=>jw a (Fj u t)
def Md:∀(a:List (List (Nat×Option α)))(k:Nat)(D E:Nat->Bool)(b:Nat),(∀(j:Nat) u,a[j]? =some u->D (k+j)≠E (k+j)->fV u b=none)->lM a k D b=lM a k E b
 |[],_,_,_,_,_=>rfl
 |u::a,k,D,E,b,h=>by
  have f:=Md a (k+1) D E b (λj v g c=>h (j+1) v (by simpa using g) (by rw[(ah:k+(j+1)=k+1+j)];exact c));have d:=h 0 u aA;rw[lM,lM,f];cases lM a (k+1) E b with
  |some x=>rfl
  |none=>
   simp only[nR]at d;by_cases e:D k=E k
   ·rw[e]
   ·rw[d e];simp
def aty(a:List (List (Nat×Option α)))(k:Nat)(D:Nat->Bool)(b:Nat)(h:∀j,j<a.length->D (k+j)=false):lM a k D b=none:=by
 induction a generalizing k with
 |nil=>rfl
 |cons u a c=>rw[lM,c (k+1) (λj d=>by rw[(ah:k+1+j=k+(j+1))];exact h (j+1) (by simpa using d))];have:=h 0 aA;simp only[nR]at this;simp[this]
def Z5:∀(a:List (List (Nat×Option α)))(k:Nat)(D:Nat->Bool)(b:Nat)(x:Option α),lM a k D b=some x->∃(j:Nat)(u:List (Nat×Option α)),a[j]? =some u/\D (k+j)=true/\fV u b=some x
 |[],_,_,_,_,h=>by simp[lM]at h
 |u::a,k,D,b,x,h=>by
  rw[lM]at h;split at h
  ·next y c=>
   cases h;obtain⟨j,v,h1,d,e⟩:=Z5 a (k+1) D b _ c;exact⟨j+1,v,by simpa using h1,by rw[(ah:k+(j+1)=k+1+j)];exact d,e⟩
  ·split at h
   ·next f=>exact⟨0,u,aA,by simpa using f,h⟩
   ·cases h
def LQ:∀(a:List (List (Nat×Option α)))(i k:Nat)(t:Tr α)(b:Nat),(jw (a.take i) t).get b=(lM a k (λj=>decide (j<k+i)) b).getD (t.get b)
 |[],i,k,t,b=>by simp[jw,lM]
 |u::a,0,k,t,b=>by rw[aty _ _ _ _ (λj _=>aA)];rfl
 |u::a,i+1,k,t,b=>by
  have c:=LQ a i (k+1) (Fj u t) b;simp only[Dn,jw];rw[c,lM];have:(λj=>decide (j<k+1+i))=λj=>decide (j<k+(i+1)):=by funext j;congr 1;apply propext;omega
  rw[this];cases lM a (k+1) (λj=>decide (j<k+(i+1))) b with
  |some x=>rfl
  |none=>simp only[um];rw[au aA,Y8]
def Z4:∀(a:List (List (Nat×Option α)))(k i:Nat)(D:Nat->Bool)(b:Nat)(u:List (Nat×Option α)),a[i]? =some u->D (k+i)=false->
 (∀(j:Nat) v,a[j]? =some v->i<j->D (k+j)=true->fV u b≠none->fV v b=none)->
 lM a k (λj=>D j ||Nat.beq j (k+i)) b=match fV u b with|some x=>some x|none=>lM a k D b
 |[],_,_,_,_,_,h,_,_=>by simp at h
 |v::a,k,0,D,b,u,h,d,c=>by
  simp at h;subst h;have tail:lM a (k+1) (λj=>D j ||Nat.beq j (k+0)) b=lM a (k+1) D b:=by refine Md _ _ _ _ _ λj w l g=>?_;exfalso;apply g;have:Nat.beq (k+1+j) (k+0)=false:=Gq ah;simp only[this,NT]
  simp only[lM,tail];simp only[nR]at d⊢;have m:Nat.beq k k=true:=aA;cases f:fV v b with
  |none=>simp[m,d,f]
  |some x=>
   have:lM a (k+1) D b=none:=by
    cases p:lM a (k+1) D b with
    |none=>rfl
    |some y=>obtain⟨j,w,q,r,n⟩:=Z5 _ _ _ _ _ p;have:=c (j+1) w (by simpa using q) ah (by rw[(ah:k+(j+1)=k+1+j)];exact r) (by rw[f];simp);rw[this]at n;cases n
   simp[this,m,f]
 |v::a,k,i+1,D,b,u,h,d,c=>by
  have o:=Z4 a (k+1) i D b u (by simpa using h) (by rw[(ah:k+1+i=k+(i+1))];exact d) (λj w l s t=>c (j+1) w (by simpa using l) ah (by rw[(ah:k+(j+1)=k+1+j)];exact t));have e:(λj=>D j ||Nat.beq j (k+1+i))=λj=>D j ||Nat.beq j (k+(i+1)):=by funext j;congr 2;omega
  rw[e]at o;simp only[lM,o];have z:Nat.beq k (k+(i+1))=false:=Gq ah;cases f:fV u b with
  |some x=>simp
  |none=>simp[z]
def BL(t:Tr α):∀(l:Q2)(b:Nat),(lg t l).get b=if b∈l then t.get b else none
 |[],b=>by simp[lg]
 |k::l,b=>by
  rw[lg,Tr.uN,BL t l];by_cases e:b=k
  ·subst e;simp
  ·simp[e]
def af9:∀(l:Q2)(t:Tr α)(b:Nat),(FV t l).get b=if b∈l then none else t.get b
 |[],t,b=>by simp[FV]
 |k::l,t,b=>by
  rw[FV,af9 l,Tr.uN];by_cases e:b=k
  ·subst e;simp
  ·simp[e]
end
def aah{get:Nat->Nat}{j:Nat}:∀{es:List Edge},(Am get es).testBit j=true->∃e∈es,Region.binds .any e=true/\(j=e.on\/(get e.on).testBit j=true)
 |[],h=>by simp[Am]at h
 |e::es,h=>by
  rw[Am]at h;split at h
  ·next d=>
   rw[Rt,Rt,nO,nO,Nat.testBit_two_pow]at h;rcases h with(h|h)|h
   ·exact⟨e,aA,d,.inl (Em h).symm⟩
   ·exact⟨e,aA,d,.inr h⟩
   ·obtain⟨a,h1,b,c⟩:=aah h;exact⟨a,by simp[h1],b,c⟩
  ·obtain⟨a,h1,b,c⟩:=aah h;exact⟨a,by simp[h1],b,c⟩
def ahA:∀(os:List Oper)(a:Q2),(mM os a).length=a.length+os.length/\(∀k,k<a.length->(mM os a)[k]? =a[k]?)/\
 ∀(k:Nat) o,os[k]? =some o->(mM os a)[a.length+k]? =some (Am (λj=>((mM os a).take (a.length+k)).getD j 0) o.after.toList)
 |[],a=>by simp[mM]
 |o::os,a=>by
  obtain⟨h1,b,e⟩:=ahA os (a++[Am (λk=>a.getD k 0) o.after.toList]);rw[mM];simp only[gu,iF,mZ]at h1 b e;refine⟨by simp only[iF];omega,λk f=>?_,λk g c=>?_⟩
  ·rw[b k ah,mY f]
  ·cases k with
   |zero=>
    simp at c;subst c;rw[nR,b a.length ah,wE (cO _)];simp only[AY,kP];congr 2;funext j;by_cases d:j<a.length
    ·rw[yK,yK,lT,au d,b j ah,mY d]
    ·rw[yK,yK,lT,aj d,wG ah]
   |succ k=>have:=e k g (by simpa using c);rw[(ah:a.length+1+k=a.length+(k+1))]at this;exact this
def ahB:∀(M:Q2)(k:Nat),Qa M k=true->∀(j m:Nat),M[j]? =some m->m<2^(k+j)
 |[],_,_,j,m,h=>by simp at h
 |x::M,k,h,j,m,a=>by
  simp only[Qa,aO]at h;cases j with
  |zero=>simp at a;subst a;have b:=h.1;rw[jv]at b;simpa using b
  |succ j=>have:=ahB M (k+1) h.2 j m (by simpa using a);rw[(ah:k+(j+1)=k+1+j)];exact this
end
noncomputable section
variable[aJ]
variable{P:Program}
def XU{F:Env}{τ τ':aC}{w:World}(h:SR P F τ w){call:Caller}(d:qV P call){o:Oper}{a:bF}{A:Act}(j:TR P F a A){r:Q4}{K:Act->World->Prop}{Q:Exit->Act->World->Prop}
 (k:vH P call o a.eval τ=some (r,τ')) (i:∀x F' w',St P F τ w F' τ' w'->(∀v,r=some v->VR F' v x)->K (A.put o.dst x) w'):o.wp P A w K Q:=by
 cases l:F8 o.op with
 |true=>refine aen h d j l k λv x F' w' m b e=>i x F' w' b λu g=>by rw[m]at g;cases g;exact e
 |false=>
  obtain⟨n,w',F',f,b,c⟩:=ah2 h (λx v e=>O7 h j x v e) l k;unfold Oper.wp;rw[f];cases r with
  |none=>subst c;exact i undef F' w' b aA
  |some v=>obtain⟨x,rfl,e⟩:=c;exact i x F' w' b (λu g=>by cases g;exact e)
def Env.cut(F:Env)(c:Nat):Env:=⟨λid=>if id<c then F id else none,F.ro,λid=>decide (id<c)&&F.gh id⟩
def Env.Le(F:Env)(c:Nat):(F.cut c).le F:=⟨λid q h=>(by
 simp only[Env.cut]at h;split at h
 ·exact h
 ·cases h),λ_ _ h=>h,λ_ h=>(aO _ _▸h:_/\_).2⟩
def Env.aeW{F:Env}{c id:Nat}(h:id<c)(a:F.gh id=true):(F.cut c).gh id=true:=by simp[Env.cut,h,a]
mutual
def VR.cut{F:Env}{c:Nat}:∀(a:AV)(v:Value),a.under c=true->VR F a v->VR (F.cut c) a v
 |.b _,_,_,b=>by simpa only[VR]using b
 |.i _ _,_,_,b=>by simpa only[VR]using b
 |.s _,_,_,b=>by simpa only[VR]using b
 |.jH,_,_,b=>by simpa only[VR]using b
 |.p id _,_,d,b=>by simp only[VR]at b⊢;obtain⟨q,h,e⟩:=b;simp only[AV.under,jv]at d;exact⟨q,by simp only[Env.cut];rw[au d];exact h,e⟩
 |.gy,_,_,b=>by simpa only[VR]using b
 |.sl id _ _ _,_,d,b=>by simp only[VR]at b⊢;obtain⟨q,h,e⟩:=b;simp only[AV.under,jv]at d;exact⟨q,by simp only[Env.cut];rw[au d];exact h,e⟩
 |.pO,_,_,b=>by simpa only[VR]using b
 |.mp id,_,d,b=>by simp only[VR]at b⊢;obtain⟨q,h,e⟩:=b;simp only[AV.under,jv]at d;exact⟨q,by simp only[Env.cut];rw[au d];exact h,e⟩
 |.yZ,_,_,b=>by simpa only[VR]using b
 |.fn _ w o,_,d,b=>by simp only[VR]at b⊢;simp only[AV.under,aO]at d;obtain⟨t,u,e,f,g⟩:=b;exact⟨t,u,e,aG.cut w t d.1 f,aG.cut o u d.2 g⟩
 |.sZ,_,_,b=>by simpa only[VR]using b
 |.jh _ a,_,d,b=>by simp only[VR]at b⊢;simp only[AV.under]at d;obtain⟨x,e,f⟩:=b;exact⟨x,e,VR.cut a x d f⟩
 |.agg l,_,d,b=>by simp only[VR]at b⊢;simp only[AV.under]at d;obtain⟨x,e,f⟩:=b;exact⟨x,e,aG.cut l x d f⟩
 |.dU l,_,d,b=>by simp only[VR]at b⊢;simp only[AV.under]at d;obtain⟨x,e,f⟩:=b;exact⟨x,e,aG.cut l x d f⟩
 |.z _ _ _,_,_,b=>by simpa only[VR]using b
 |.ro l,_,d,b=>by
  simp only[VR]at b⊢;simp only[AV.under]at d;rcases b with b|⟨r,s,y,j,z,e,A,f,g,m⟩
  ·exact .inl b
  right;exact⟨r,s,y,j,z,e,A,aG.cut l j d f,g,m⟩
 |.rp a _,_,d,b=>by simp only[VR]at b⊢;simp only[AV.under]at d;obtain⟨r,base,o,n,B,x,f,g,m⟩:=b;exact⟨r,base,o,n,B,x,f,VR.cut a x d g,m⟩
 |.nd _,_,_,b=>by simp only[VR]at b⊢;exact b
 |.rx _ _,_,_,b=>by simp only[VR]at b⊢;exact b
 |.sv id _,_,d,b=>by
  simp only[VR]at b⊢;simp only[AV.under,jv]at d;obtain⟨j,f,⟨q,h,g⟩|g⟩:=b
  ·exact⟨j,f,.inl ⟨q,by simp only[Env.cut];rw[au d];exact h,g⟩⟩
  ·exact⟨j,f,.inr ⟨Env.aeW d g.1,g.2⟩⟩
 |.pv id _ _,_,d,b=>by simp only[VR]at b⊢;simp only[AV.under,jv]at d;obtain⟨q,k,i,h,g⟩:=b;exact⟨q,k,i,by simp only[Env.cut];rw[au d];exact h,g⟩
 |.pd id _,_,d,b=>by simp only[VR]at b⊢;simp only[AV.under,jv]at d;obtain⟨j,p,f,g,m⟩:=b;exact⟨j,p,f,g,λD=>by obtain⟨q,h,E⟩:=m D;exact⟨q,by simp only[Env.cut];rw[au d];exact h,E⟩⟩
def aG.cut{F:Env}{c:Nat}:∀(l:Q3)(vs:Q6),AV.pW c l=true->aG F l vs->aG (F.cut c) l vs
 |[],_,_,b=>by simpa only[aG]using b
 |a::l,_,d,b=>by simp only[aG]at b⊢;simp only[AV.pW,aO]at d;obtain⟨x,xs,e,h1,f⟩:=b;exact⟨x,xs,e,VR.cut a x d.1 h1,aG.cut l xs d.2 f⟩
end
def aki{c:Nat}:∀{l:Q3}{k:Nat}{a:AV},AV.pW c l=true->l[k]? =some a->a.under c=true
 |[],k,a,_,h=>by simp at h
 |x::l,k,a,b,h=>by
  simp only[AV.pW,aO]at b;cases k with
  |zero=>simp at h;subst h;exact b.1
  |succ k=>exact aki b.2 (by simpa using h)
def OR.cut{F:Env}{c:Nat}{q:Place}{w:World}{o:bG}(j:Bl c o=true)(h:OR P F q w o):OR P (F.cut c) q w o:=by
 cases o with
 |cells l G rw H=>obtain⟨v,d,y,i,r⟩:=h;exact⟨v,d,y,i,{r with cell:=λk a g=>by obtain⟨x,I,J⟩:=r.cell k a g;exact⟨x,I,VR.cut a x (aki j g) J⟩}⟩
 |iter s pos=>exact h
 |map es=>obtain⟨z,b,i,p,u⟩:=h;refine⟨z,b,i,p,λk e g=>?_⟩;obtain⟨m,A,B,D⟩:=u k e g;simp only[Bl,List.all_eq_true,aO]at j;have:=j e (rX g);exact⟨m,A,VR.cut _ _ this.1 B,VR.cut _ _ this.2 D⟩
 |iterM m=>
  cases m with
  |none=>exact h
  |some m=>obtain⟨L,t,last,N,i,p⟩:=h;simp only[Bl,jv]at j;exact⟨L,t,last,N,by simp only[Env.cut];rw[au j];exact i,p⟩
 |smap n Y Z=>exact h
 |pmap es=>obtain⟨O,z,b,E,i,R,p,u⟩:=h;refine⟨O,z,b,E,i,R,p,λk e g=>?_⟩;obtain⟨m,A,B,D⟩:=u k e g;simp only[Bl,List.all_eq_true]at j;exact⟨m,A,B,VR.cut _ _ (j e (rX g)) D⟩
 |vec n G f=>obtain⟨S,v,d,y,T,i,p,u,U,V,W,r,X⟩:=h;exact⟨S,v,d,y,T,i,p,u,U,V,W,{r with cell:=λk a g=>by simp at g},X⟩
def St.merge{F Z rU F':Env}{J J' τ τ':aC}{w w':World}{upd:WN}(v:SR P F J w)(Uz:SR P Z τ w)(a:St P Z τ w rU τ' w')(sub:∀id o,τ.get id=some o->J.get id=some o)(hi:Z.le F)(aa:Z.ro=F.ro)(UJ:F'.ro=rU.ro)
 (h1:F.le F') (h2:rU.le F') (hg:∀b,J'.get b=(fV upd b).getD (J.get b))
 (V:∀b o,fV upd b=some (some o)->τ'.get b=some o/\((∃o0,τ.get b=some o0/\o0.own=true)\/(o.own=true/\τ.get b=none)))
 (NI:∀id o,τ.get id=some o->o.own=true->τ.lock<=id->fV upd id≠none) (L:J.lock<=τ.lock) (yX:∀b,fV upd b≠none->τ.lock<=b)
 (ac:∀id q,F' id=some q->id<J'.next) (N:∀id,F'.gh id=true->F' id=none/\id<J'.next):
 SR P F' J' w'/\w.heap.size<=w'.heap.size/\
 (∀bl,bl<w.heap.size->(∀id o q,J.get id=some o->o.own=true->J.lock<=id->F id=some q->q.bl≠bl)->w'.heap[bl]? =w.heap[bl]?)/\
 (∀id o q,J'.get id=some o->o.own=true->J.lock<=id->F' id=some q->w.heap.size<=q.bl\/∃d o0 i,J.get d=some o0/\o0.own=true/\J.lock<=d/\F d=some i/\i.bl=q.bl)/\
 (∀b,F'.ro b≠none->F.ro b≠none\/w.heap.size<=b\/∃d o0 i,J.get d=some o0/\o0.own=true/\J.lock<=d/\F d=some i/\i.bl=b):=by
 have O:∀b o q,fV upd b=none->J.get b=some o->F b=some q->q.bl<w.heap.size->w'.heap[q.bl]? =w.heap[q.bl]?:=by intro b o q s n I ad;refine a.keep _ ad ?_;intro id o2 q2 y l z A;have ae:id≠b:=λe=>NI id o2 y l z (by rw[e];exact s);exact v.sep id o2 b o q2 q (sub _ _ y) l n ae (hi.pl _ _ A) I
 have c:∀b o q,fV upd b=some (some o)->F' b=some q->OR P F' q w' o/\rU b=some q:=by
  intro b o q s j;rcases a.rel.live b o (V b o s).1 with⟨p,R,S⟩|⟨t,_⟩
  ·have:=h2.pl _ _ R;rw[j]at this;cases this;exact⟨S.mono h2,R⟩
  ·rw[(N b (h2.gh b t)).1]at j;cases j
 have m:∀id o q,J.get id=some o->F' id=some q->F id=some q/\OR P F q w o:=by
  intro id o q n j;rcases v.live id o n with⟨p,R,S⟩|⟨t,_⟩
  ·have:=h1.pl _ _ R;rw[j]at this;cases this;exact⟨R,S⟩
  ·rw[(N id (h1.gh id t)).1]at j;cases j
 have T:∀b o q,fV upd b=some (some o)->rU b=some q->(w.heap.size<=q.bl)\/(∃d o0 i,τ.get d=some o0/\o0.own=true/\τ.lock<=d/\Z d=some i/\i.bl=q.bl):=by
  intro b o q s I;obtain⟨h4,W⟩:=V b o s;rcases W with⟨o0,h6,h7⟩|⟨h6,h7⟩
  ·rcases Uz.live b o0 h6 with⟨p',ab,_⟩|⟨t,_⟩
   ·have:=a.ext.pl _ _ ab;rw[I]at this;cases this;exact .inr ⟨b,o0,q,h6,h7,yX b (by rw[s];simp),ab,rfl⟩
   ·rw[(a.rel.jU b (a.ext.gh b t)).1]at I;cases I
  ·rcases a.own b o q h4 h6 (yX b (by rw[s];simp)) I with h8|h8
   ·exact .inl h8
   ·exact .inr h8
 have OU:∀id o,J'.get id=some o->(fV upd id=some (some o))\/(fV upd id=none/\J.get id=some o):=by
  intro id o n;rw[hg]at n;cases hl:fV upd id with
  |none=>rw[hl]at n;exact .inr ⟨rfl,n⟩
  |some x=>rw[hl]at n;simp only[rD]at n;subst n;exact .inl rfl
 refine⟨⟨?_,ac,?_,N,?_,λb o s=>a.rel.jc b o (by rw[<-UJ];exact s),?_,λp R=>(v.tabs p R).mono h1⟩,a.size,?_,?_,?_⟩
 ·intro g af;obtain⟨sz,es,W⟩:=v.mJ g af;exact⟨sz,es,h1.pl _ _ W⟩
 ·intro id o n;rcases OU id o n with h4|⟨h4,W⟩
  ·exact(a.rel.live id o (V id o h4).1).mono h2
  ·exact((v.live id o W).heap (w:=w) λq I S=>O id o q h4 W I S.lt).mono h1
 ·intro id o h B q X y l z A a5 a6;rcases OU id o y with k|⟨k,f⟩<;>rcases OU h B z with Y|⟨Y,D⟩
  ·obtain⟨_,U⟩:=c id o q k a5;obtain⟨_,c4⟩:=c h B X Y a6;exact a.rel.sep id o h B _ _ (V _ _ k).1 l (V _ _ Y).1 A U c4
  ·obtain⟨_,U⟩:=c id o q k a5;obtain⟨d1,d2⟩:=m h B X D a6;rcases T id o q k U with e|⟨d,o0,i,r,u,E,G,H⟩
   ·have:=d2.lt;omega
   ·rw[<-H];exact v.sep d o0 h B i X (sub _ _ r) u D (λe=>NI d o0 r u E (by rw[e];exact Y)) (hi.pl _ _ G) d1
  ·obtain⟨_,c4⟩:=c h B X Y a6;obtain⟨d1,d2⟩:=m id o q f a5;rcases T h B X Y c4 with e|⟨d,o0,i,r,u,E,G,H⟩
   ·have:=d2.lt;omega
   ·rw[<-H];exact v.sep id o d o0 q i f l (sub _ _ r) (λe=>NI d o0 r u E (by rw[<-e];exact k)) d1 (hi.pl _ _ G)
  ·exact v.sep id o h B _ _ f l D A (m id o q f a5).1 (m h B X D a6).1
 ·intro id o q y l z;rcases OU id o y with k|⟨k,f⟩
  ·obtain⟨_,U⟩:=c id o q k z;rw[UJ];exact a.rel.lq id o q (V _ _ k).1 l U
  ·obtain⟨d1,d2⟩:=m id o q f z;cases S:F'.ro q.bl with
   |none=>rfl
   |some o2=>
    exfalso;rcases a.qH q.bl (by rw[<-UJ,S];simp)with e|e|⟨d,o0,i,r,u,E,G,H⟩
    ·rw[aa,v.lq id o q f l d1]at e;exact e rfl
    ·have:=d2.lt;omega
    ·exact v.sep d o0 id o i q (sub _ _ r) u f (λe=>NI d o0 r u E (by rw[e];exact k)) (hi.pl _ _ G) d1 H
 ·intro bl ag ai;exact a.keep bl ag λid o q y l z A=>ai id o q (sub _ _ y) l (kR L z) (hi.pl _ _ A)
 ·intro id o q y l z A;rcases OU id o y with k|⟨k,f⟩
  ·obtain⟨_,U⟩:=c id o q k A;rcases T id o q k U with e|⟨d,o0,i,r,u,E,G,H⟩
   ·exact .inl e
   ·exact .inr ⟨d,o0,i,sub _ _ r,u,kR L E,hi.pl _ _ G,H⟩
  ·obtain⟨d1,_⟩:=m id o q f A;exact .inr ⟨id,o,q,f,l,z,d1,rfl⟩
 ·intro b s;rcases a.qH b (by rw[<-UJ];exact s)with e|e|⟨d,o0,i,r,u,E,G,H⟩
  ·rw[aa]at e;exact .inl e
  ·exact .inr (.inl e)
  ·exact .inr (.inr ⟨d,o0,i,sub _ _ r,u,kR L E,hi.pl _ _ G,H⟩)
def St.then{F0 F F':Env}{J0 J J':aC}{w0 w w':World}(h:St P F0 J0 w0 F J w)(n:F.le F')(rel:SR P F' J' w')(size:w.heap.size<=w'.heap.size)
 (keep:∀bl,bl<w.heap.size->(∀id o q,J.get id=some o->o.own=true->J.lock<=id->F id=some q->q.bl≠bl)->w'.heap[bl]? =w.heap[bl]?)
 (own:∀id o q,J'.get id=some o->o.own=true->J.lock<=id->F' id=some q->w.heap.size<=q.bl\/∃f o0 g,J.get f=some o0/\o0.own=true/\J.lock<=f/\F f=some g/\g.bl=q.bl)
 (os:w'.os=w.os) (tape:w'.tape=w.tape) (output:w'.output=w.output) (lock:J'.lock=J.lock) (next:J.next<=J'.next)
 (new:∀id,F'.has id->F.has id\/(J0.next<=id/\id<J'.next))
 (qH:∀b,F'.ro b≠none->F.ro b≠none\/w.heap.size<=b\/∃f o0 g,J.get f=some o0/\o0.own=true/\J.lock<=f/\F f=some g/\g.bl=b):St P F0 J0 w0 F' J' w':=by
 refine⟨h.ext.trans n,rel,kR h.size size,?_,?_,os.trans h.os,tape.trans h.tape,output.trans h.output,lock.trans h.lock,kR h.next next,?_,?_⟩
 ·intro bl j k;rw[keep bl (xR j h.size) ?_,h.keep bl j k];intro id o q h1 m i l;rcases h.own id o q h1 m (h.lock▸i) l with x|⟨f,o0,g,a,b,c,d,e⟩
  ·omega
  ·rw[<-e];exact k f o0 g a b c d
 ·intro id o q h1 m i l;rcases own id o q h1 m (by rw[h.lock];exact i) l with x|⟨f,o0,g,a,b,c,d,e⟩
  ·exact .inl (kR h.size x)
  ·rcases h.own f o0 g a b (h.lock▸c) d with L|⟨p,o1,y,r,s,t,d1,u⟩
   ·left;omega
   ·exact .inr ⟨p,o1,y,r,s,t,d1,u.trans e⟩
 ·intro id z;rcases new id z with h1|h1
  ·rcases h.new id h1 with i|⟨i,l⟩
   ·exact .inl i
   ·exact .inr ⟨i,xR l next⟩
  ·exact .inr h1
 ·intro b A;rcases qH b A with h1|h1|⟨f,o0,g,r,s,t,d1,u⟩
  ·exact h.qH b h1
  ·exact .inr (.inl (kR h.size h1))
  ·rcases h.own f o0 g r s (h.lock▸t) d1 with m|⟨v,B,D,E,G,H,d2,I⟩
   ·right;left;omega
   ·exact .inr (.inr ⟨v,B,D,E,G,H,d2,I.trans u⟩)
def kU(rs:Wk):List (List (Nat×Q4)):=rs.map (·.slot)
def gZ(rs:Wk):List WN:=rs.map (·.upd)
def jF:Nat->List dJ->Nat->Nat
 |c,_,0=>c
 |c,[],_=>c
 |_,r::rs,k+1=>jF r.next rs k
def aeX{call:Caller}{ops:W5}{M:Q2}{N0 b l n:Nat}:∀(m:Nat)(a:Wk)(i:Nat)(t:Tr AV)(h:Tr bG)(c:Nat)(rs:Wk)(e:Tr AV)(f:Tr bG)(g:Nat),
 OZ P call ops M N0 b l n m a i t h c=some (rs,e,f,g)->∃new,rs=a++new/\new.length=m/\e=jw (kU new) t/\f=jw (gZ new) h/\g=jF c new m/\
  ∀(k:Nat) r,new[k]? =some r->yj P call ops M N0 b l n (a++new.take k) (i+k) (jw ((kU new).take k) t) (jw ((gZ new).take k) h) (jF c new k)=some r
 |0,a,i,t,h,c,rs,e,f,g,d=>by simp only[OZ,aY,oD]at d;obtain⟨rfl,rfl,rfl,rfl⟩:=d;exact⟨[],aA,rfl,rfl,rfl,rfl,aA⟩
 |m+1,a,i,t,h,c,rs,e,f,g,d=>by
  unfold OZ at d;split at d
  ·cases d
  ·next r o=>
   obtain⟨new,p,q,u,v,w,x⟩:=aeX m _ _ _ _ _ _ _ _ _ d;refine⟨r::new,by rw[p];simp,by simp[q],?_,?_,?_,?_⟩
   ·rw[u];rfl
   ·rw[v];rfl
   ·rw[w];rfl
   ·intro k s j;cases k with
    |zero=>simp at j;subst j;simpa[jw,kU,gZ,jF]using o
    |succ k=>have:=x k s (by simpa using j);rw[(ah:i+1+k=i+(k+1))]at this;simp only[List.append_assoc,N8]at this;simpa[kU,gZ,jw,jF]using this
def apB{call:Caller}{ops:W5}{M:Q2}{N0 b e n i c:Nat}{d:Wk}{t:Tr AV}{h:Tr bG}{r:dJ}(a:BA P call ops M N0 b e n d i t h c=some r):r.base=c:=by
 unfold BA at a;split at a
 ·cases a
 ·simp only at a;split at a
  ·cases a
  ·cases a;rfl
  ·split at a
   ·split at a
    ·cases a;rfl
    ·cases a
   ·split at a
    ·split at a
     ·split at a
      ·cases a;rfl
      ·cases a
     ·cases a
    ·split at a
     ·split at a
      ·cases a;rfl
      ·cases a
     ·cases a
    ·split at a
     ·split at a
      ·cases a;rfl
      ·cases a
     ·cases a
    ·split at a
     ·cases a;rfl
     ·split at a
      ·split at a
       ·cases a;rfl
       ·cases a
      ·cases a
def apC{call:Caller}{ops:W5}{M:Q2}{N0 d f n i c:Nat}{e:Wk}{t:Tr AV}{h:Tr bG}{r:dJ}(a:BA P call ops M N0 d f n e i t h c=some r):∃o v,ops[i]? =some o/\r.slot=qN o v:=by
 unfold BA at a;split at a
 ·cases a
 ·next o b=>
  simp only at a;split at a
  ·cases a
  ·cases a;exact⟨o,_,b,rfl⟩
  ·split at a
   ·split at a
    ·cases a;exact⟨o,_,b,rfl⟩
    ·cases a
   ·split at a
    ·split at a
     ·split at a
      ·cases a;exact⟨o,_,b,rfl⟩
      ·cases a
     ·cases a
    ·split at a
     ·split at a
      ·cases a;exact⟨o,_,b,rfl⟩
      ·cases a
     ·cases a
    ·split at a
     ·split at a
      ·cases a;exact⟨o,_,b,rfl⟩
      ·cases a
     ·cases a
    ·split at a
     ·cases a;exact⟨o,_,b,rfl⟩
     ·split at a
      ·split at a
       ·cases a;exact⟨o,_,b,rfl⟩
       ·cases a
      ·cases a
def apE{call:Caller}{ops:W5}{M:Q2}{N0 b e n i c:Nat}{d:Wk}{t:Tr AV}{h:Tr bG}{r:dJ}(a:BA P call ops M N0 b e n d i t h c=some r):r.fin=none:=by
 unfold BA at a;split at a
 ·cases a
 ·simp only at a;split at a
  ·cases a
  ·cases a;rfl
  ·split at a
   ·split at a
    ·cases a;rfl
    ·cases a
   ·split at a
    ·split at a
     ·split at a
      ·cases a;rfl
      ·cases a
     ·cases a
    ·split at a
     ·split at a
      ·cases a;rfl
      ·cases a
     ·cases a
    ·split at a
     ·split at a
      ·cases a;rfl
      ·cases a
     ·cases a
    ·split at a
     ·cases a;rfl
     ·split at a
      ·split at a
       ·cases a;rfl
       ·cases a
      ·cases a
def apD{call:Caller}{ops:W5}{M:Q2}{N0 b e n i c:Nat}{d:Wk}{t:Tr AV}{h:Tr bG}{r:dJ}(a:yj P call ops M N0 b e n d i t h c=some r):r.base=c:=by
 unfold yj at a;split at a
 ·unfold Lh at a;split at a
  ·cases a
  ·split at a
   ·cases a
   ·cases a;rfl
   ·split at a
    ·cases a;rfl
    ·cases a
 ·exact apB a
def apF{call:Caller}{ops:W5}{M:Q2}{N0 b f n i c:Nat}{d:Wk}{t:Tr AV}{h:Tr bG}{r:dJ}(a:yj P call ops M N0 b f n d i t h c=some r):∃o v,ops[i]? =some o/\r.slot=qN o v:=by
 unfold yj at a;split at a
 ·unfold Lh at a;split at a
  ·cases a
  ·next o e=>
   split at a
   ·cases a
   ·cases a;exact⟨o,_,e,rfl⟩
   ·split at a
    ·cases a;exact⟨o,_,e,rfl⟩
    ·cases a
 ·exact apC a
structure qW(ops:W5)(M:Q2)(rs:Wk)(n N0:Nat):Prop where
 hM:M=mM ops.toList []
 mok:Qa M 0=true
 len:rs.length=ops.size
 pairs:∀(i j:Nat) r s,rs[i]? =some r->rs[j]? =some s->yH M i j=true->Qn ops N0 i j r s=true
 slot:∀(i:Nat) r,rs[i]? =some r->r.base<=r.next/\∀p∈r.slot,p.1<n
structure Ctx(P:Program)(call:Caller)(ops:W5)(M:Q2)(rs:Wk)(a0:bF)(J0:aC)(cf:Nat):Prop extends qW ops M rs a0.n J0.next where
 one:∀(i:Nat) r,rs[i]? =some r->yj P call ops M J0.next J0.lock a0.gn a0.n (rs.take i) i (jw ((kU rs).take i) a0.t) (jw ((gZ rs).take i) J0.h) (jF (J0.next+ops.size) rs i)=some r
 fin:cf=jF (J0.next+ops.size) rs ops.size
 big:cf<=uz
 lock:J0.lock<=J0.next
section
variable{call:Caller}{ops:W5}{M:Q2}{rs:Wk}{a0:bF}{J0:aC}{cf nn N0:Nat}
def OQ:∀(rs:Wk)(c k:Nat)(r:dJ),rs[k]? =some r->jF c rs (k+1)=r.next
 |[],c,k,r,h=>by simp at h
 |s::rs,c,0,r,h=>by simp at h;subst h;cases rs<;>rfl
 |s::rs,c,k+1,r,h=>by
  show jF s.next rs (k+1)=r.next
  exact OQ rs s.next k r (by simpa using h)
def Ctx.base(C:Ctx P call ops M rs a0 J0 cf){i:Nat}{r:dJ}(h:rs[i]? =some r):r.base=jF (J0.next+ops.size) rs i:=apD (C.one i r h)
def Ctx.mono(C:Ctx P call ops M rs a0 J0 cf):∀(k i:Nat),i+k<=rs.length->jF (J0.next+ops.size) rs i<=jF (J0.next+ops.size) rs (i+k)
 |0,i,_=>cO _
 |k+1,i,h=>by have c:=C.mono k i ah;have a:i+k<rs.length:=ah;have b:rs[i+k]? =some rs[i+k]:=bT a;have:=(C.slot _ _ b).1;rw[C.base b]at this;rw[(ah:i+(k+1)=(i+k)+1),OQ rs _ _ _ b];omega
def Ctx.lt(C:Ctx P call ops M rs a0 J0 cf){i j:Nat}{r s:dJ}(hi:rs[i]? =some r)(a:rs[j]? =some s)(h:i<j):r.next<=s.base:=by have b:=(fH.1 a).1;have:=C.mono (j-(i+1)) (i+1) ah;rw[OQ rs _ _ _ hi,(ah:i+1+(j-(i+1))=j)]at this;rw[C.base a];exact this
def Ctx.lo(C:Ctx P call ops M rs a0 J0 cf){i:Nat}{r:dJ}(hi:rs[i]? =some r):J0.next+ops.size<=r.base:=by have:=C.mono i 0 (by have:=(fH.1 hi).1;omega);rw[C.base hi];simpa[jF]using this
def Ctx.hi(C:Ctx P call ops M rs a0 J0 cf){i:Nat}{r:dJ}(hi:rs[i]? =some r):r.next<=cf:=by have a:=(fH.1 hi).1;have:=C.mono (ops.size-(i+1)) (i+1) (by have:=C.len;omega);rw[OQ rs _ _ _ hi,show i+1+(ops.size-(i+1))=ops.size by have:=C.len;omega]at this;rw[C.fin];exact this
def Ctx.Yk(C:Ctx P call ops M rs a0 J0 cf):J0.next+ops.size<=cf:=by have:=C.mono ops.size 0 (by have:=C.len;omega);rw[C.fin];simpa[jF]using this
def qW.mask(C:qW ops M rs nn N0){i:Nat}{o:Oper}(b:ops[i]? =some o):M[i]? =some (Am (λj=>(M.take i).getD j 0) o.after.toList)/\M.length=ops.size:=by obtain⟨a,_,c⟩:=ahA ops.toList [];have:=c i o (by simpa using b);simp only[mZ,kX]at this a;rw[C.hM];exact⟨this,by simpa using a⟩
def Closed(ops:W5)(D:Nat->Bool):Prop:=∀i o,D i=true->ops[i]? =some o->∀e∈o.after.toList,Region.binds .any e=true->D e.on=true
def qW.rE(C:qW ops M rs nn N0){D:Nat->Bool}(k:Closed ops D):∀(i:Nat)(o:Oper),ops[i]? =some o->(∀e∈o.after.toList,Region.binds .any e=true->D e.on=true)->∀j,uT M j i=true->D j=true:=by
 intro i;induction i using Nat.strongRecOn with
 |_ i l=>
  intro o m n j c;obtain⟨p,t⟩:=C.mask m;unfold uT at c;rw[yK,p]at c;obtain⟨e,q,r,h1⟩:=aah c;have a:=n e q r;rcases h1 with rfl|h1
  ·exact a
  ·rw[yK,lT]at h1;split at h1
   ·next d=>
    by_cases f:e.on<ops.size
    ·have b:ops[e.on]? =some ops[e.on]:=by simp[f]
     refine l e.on d ops[e.on] b (λs g h=>k e.on _ a b s g h) j ?_;unfold uT;rw[yK];exact h1
    ·rw[wG ah]at h1;simp at h1
   ·simp at h1
def qW.aay(C:qW ops M rs nn N0){i j:Nat}(h:uT M j i=true):j<i:=by
 unfold uT at h;rw[yK]at h;cases b:M[i]? with
 |none=>rw[b]at h;simp at h
 |some m=>rw[b]at h;have a:=ahB M 0 C.mok i m b;simp only[kX,rD]at a h;exact Nat.lt_of_not_le λc=>by have:=Nat.testBit_lt_two_pow (xR a (Rq ah c));rw[this]at h;cases h
def qW.open_(C:qW ops M rs nn N0){D:Nat->Bool}(c:Closed ops D){i j:Nat}{o:Oper}(k:ops[i]? =some o)(hi:D i=false)(l:∀e∈o.after.toList,Region.binds .any e=true->D e.on=true)
 (m:j<ops.size) (a:D j≠decide (j<i)):yH M i j=true:=by
 have d:i≠j:=by rintro rfl;rw[hi]at a;simp at a
 have n:uT M j i=false:=by
  cases h:uT M j i with
  |false=>rfl
  |true=>have f:=C.rE c i o k l j h;have g:=C.aay h;rw[f]at a;simp[g]at a
 have f:uT M i j=false:=by
  cases h:uT M i j with
  |false=>rfl
  |true=>
   have g:=C.aay h;have p:D j=true:=by
    cases q:D j with
    |true=>rfl
    |false=>rw[q]at a;simp at a;omega
   have b:ops[j]? =some ops[j]:=by simp[m]
   have:=C.rE c j _ b (λe r s=>c j _ p b e r s) i h;rw[this]at hi;cases hi
 unfold yH;rw[Gq d,n,f];rfl
def O5{l m:Q2}(h:qj l m=true){b:Nat}(a:b∈l):b∉m:=by unfold qj at h;rw[List.all_eq_true]at h;have:=h b a;simpa using this
