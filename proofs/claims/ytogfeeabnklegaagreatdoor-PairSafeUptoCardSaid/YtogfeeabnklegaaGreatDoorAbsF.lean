/- Regions whose order Go leaves open: the evaluator goes by the text, and looks whether another order could make a difference. -/
import Derived.Test.YtogfeeabnklegaaGreatDoorAbsE
set_option linter.all false
namespace Go.aP
noncomputable section
variable[iI]
def Ci(get:Nat->Nat):List Edge->Nat
 |[]=>0
 |e::es=>if Region.binds .any e then(2^e.on |||get e.on) |||Ci get es else Ci get es
def oQ:List Oper->List Nat->List Nat
 |[],a=>a
 |o::os,a=>oQ os (a++[Ci (λk=>a.getD k 0) o.after.toList])
def wZ(M:Q2)(j i:Nat):Bool:=(M.getD i 0).testBit j
def Af(M:Q2)(i j:Nat):Bool:=!(Nat.beq i j)&&!(wZ M j i)&&!(wZ M i j)
def RZ:Q2->Nat->Bool
 |[],_=>true
 |m::a,i=>Nat.blt m (2^i)&&RZ a (i+1)
def G5{α:Type}:List (Nat×Option α)->Tr α->Tr α
 |[],t=>t
 |(k,v)::l,t=>G5 l (t.set k v)
def mZ{α:Type}(t:Tr α):Q2->Tr α
 |[]=>.nil
 |k::l=>(mZ t l).set k (t.get k)
def H7{α:Type}(t:Tr α):Q2->Tr α
 |[]=>t
 |k::l=>H7 (t.set k none) l
mutual
def AV.under(c:Nat):AV->Bool
 |.p id _=>Nat.blt id c
 |.sl id _ _ _=>Nat.blt id c
 |.mp id=>Nat.blt id c
 |.fn _ fi cs=>AV.rX c fi&&AV.rX c cs
 |.jL _ a=>a.under c
 |.agg l=>AV.rX c l
 |.fG l=>AV.rX c l
 |.ro l=>AV.rX c l
 |.rp a _=>a.under c
 |.sv id _=>Nat.blt id c
 |.pv id _ _=>Nat.blt id c
 |.pd id _=>Nat.blt id c
 |_=>true
def AV.rX(c:Nat):Q3->Bool
 |[]=>true
 |a::l=>a.under c&&AV.rX c l
end
def Dt(c:Nat):bP->Bool
 |.cells l _ _ _=>AV.rX c l
 |.iter _ _=>true
 |.map es=>es.all λe=>e.1.under c&&e.2.under c
 |.iterM (some m)=>Nat.blt m c
 |.iterM none=>true
 |.vec _ _ _=>true
 |.smap _ _ _=>true
 |.pmap es=>es.all λe=>e.2.under c
def Qs(c:Nat)(h:Tr bP):Q2->Bool
 |[]=>true
 |k::l=>Nat.blt k c&&(match h.get k with|some o=>Dt c o|none=>true)&&Qs c h l
def Nu(c:Nat)(t:Tr AV):Q2->Bool
 |[]=>true
 |k::l=>(match t.get k with|some v=>v.under c|none=>true)&&Nu c t l
structure dX where
 slot:List (Nat×Q4)
 upd:WP
 vis:Option Q2
 loc:Q2
 base:Nat
 next:Nat
 fin:Option aC:=none
abbrev Wm:=List dX
inductive Cls where
 |na (vis:Q2)
 |wr (w:Q2)
 |sa (w:Q2)
 |ca
def awt:AV->List Nat
 |.p id _=>[id]
 |.sl id _ _ _=>[id]
 |.mp id=>[id]
 |.sv id _=>[id]
 |.pv id _ _=>[id]
 |.pd id _=>[id]
 |_=>[]
def zV(b:QQ)(x:Operand):Q2:=match b x with|some a=>awt a|none=>[]
def agj(o:Oper)(b:QQ):Cls:=
 match o.op with
 |.load _ a=>.na (zV b a)
 |.indexAddr _ x _=>.na (zV b x)
 |.store _ a _=>.wr (zV b a)
 |.box .. |.buildSlice .. |.makeSlice .. |.makeMap ..=>.sa []
 |.convert _ _ x=>.sa (zV b x)
 |.slice _ x _ _ _=>.na (zV b x)
 |.lookup _ m _ _=>.na (zV b m)
 |.mapUpdate _ m _ _|.insert _ m _ _=>.wr (zV b m)
 |.range _ x=>.sa (zV b x)
 |.next d _=>.wr (zV b d)
 |.call c=>match c.callee with
  |.builtin .len=>.na (c.args.toList.flatMap (zV b))
  |.builtin .append|.builtin .copy|.builtin .clear=>.sa (c.args.toList.flatMap (zV b))
  |.builtin .unsafeSliceData=>.na (c.args.toList.flatMap (zV b))
  |.builtin .unsafeString=>.wr (c.args.toList.flatMap (zV b))
  |.builtin _=>.na []
  |_=>.ca
 |_=>.na []
def wI:Nat:=2^64
def uf(o:Oper)(v:Q4):List (Nat×Q4):=match o.dst with|some d=>[(d,v)]|none=>[]
def Ie(τ:aC):Nat->Nat->List (Nat×Option bP)
 |_,0=>[]
 |c,n+1=>(c,match τ.get c with|some o=>if o.own then some o else none|none=>none)::Ie τ (c+1) n
def keysOf{α:Type}(l:List (Nat×Option α)):Q2:=l.map (·.1)
def FT(M:Q2)(i:Nat):Wm->Nat->List Nat
 |[],_=>[]
 |r::rs,j=>if Af M i j then keysOf r.upd++FT M i rs (j+1)else FT M i rs (j+1)
def RV(M:Q2)(i:Nat):Wm->Nat->List Nat
 |[],_=>[]
 |r::rs,j=>if Af M i j then RV M i rs (j+1)else keysOf r.upd++RV M i rs (j+1)
def Lj(h:Tr bP)(a:Nat)(l:Q2):Q2:=l.filter λk=>Nat.ble a k&&(match h.get k with|some o=>o.own|none=>false)
mutual
def Nr:AV->List Nat
 |.p id _|.sl id _ _ _|.mp id|.sv id _|.pv id _ _|.pd id _=>[id]
 |.fn _ fs cs=>Ns fs++Ns cs
 |.jL _ v=>Nr v
 |.agg l=>Ns l
 |.fG l=>Ns l
 |_=>[]
def Ns:Q3->List Nat
 |[]=>[]
 |a::l=>Nr a++Ns l
end
def ayA:bP->List Nat
 |.cells l _ _ _=>Ns l
 |.map es=>es.flatMap λe=>Nr e.1++Nr e.2
 |.pmap es=>es.flatMap λe=>Nr e.2
 |.iterM (some m)=>[m]
 |_=>[]
def adn(h:Tr bP):Nat->List Nat->List Nat->List Nat
 |0,_,seen=>seen
 |_+1,[],seen=>seen
 |f+1,k::a,seen=>bif seen.contains k then adn h f a seen else adn h f ((match h.get k with|some o=>ayA o|none=>[])++a) (k::seen)
def Td(o:Oper)(a:QQ)(h:Tr bP):Q2:=
 adn h 1000 (o.op.operands.toList.flatMap λx=>match a x with|some v=>Nr v|none=>[]) []
def axK(ops:W6)(j:Nat):Bool:=match ops[j]? with
 |some o=>match o.op with
  |.buildSlice .. |.makeSlice .. |.makeMap ..=>true
  |_=>false
 |none=>false
def aw1(ops:W6)(M:Q2)(i:Nat):Bool:=(List.range ops.size).any λj=>Nat.blt i j&&axK ops j&&Af M i j
def amO{α:Type}(b:Bool)(x:Unit->Option α):Option α:=bif b then none else x ()
def aFj{α:Type}{b:Bool}{x:Unit->Option α}{y:α}(h:amO b x=some y):x ()=some y:=by
 cases b with
 |true=>cases h
 |false=>exact h
def Dx(P:Program)(call:Caller)(ops:W6)(M:Q2)(N0 lock gn n:Nat)(b:Wm)(i:Nat)(t:Tr AV)(h:Tr bP)(c:Nat):Option dX:=
 match ops[i]? with
 |none=>none
 |some o=>
  let a:bM:={t:=mZ t (o.looksAt ops),n:=n,gn:=gn}
  match Md o ops a with
  |none=>none
  |some false=>some {slot:=uf o (some (.fG [])),upd:=[],vis:=some [],loc:=[],base:=c,next:=c}
  |some true=>
   match o.op with
   |.alloc d=>match Bh P d with
    |some z=>some {slot:=uf o (some (.p (N0+i) 0)),upd:=[(N0+i,some (.cells z d true false))],vis:=some [],loc:=[],base:=c,next:=c}
    |none=>none
   |_=>
    match agj o a.eval with
    |.na l=>
     match BQ P call o a.eval {h:=mZ h l,next:=wI,lock:=wI}with
     |some (v,τ)=>if Nat.beq τ.next wI then some {slot:=uf o v,upd:=[],vis:=some l,loc:=[],base:=c,next:=c}else none
     |none=>none
    |.wr l=>
     match BQ P call o a.eval {h:=mZ h l,next:=wI,lock:=lock}with
     |some (v,τ)=>if Nat.beq τ.next wI then some {slot:=uf o v,upd:=(Lj h lock l).map λk=>(k,τ.get k),vis:=some l,loc:=[],base:=c,next:=c}else none
     |none=>none
    |.sa l=>
     if Nu c t (o.looksAt ops)&&Qs c h l then
      match BQ P call o a.eval {h:=mZ h l,next:=c,lock:=lock}with
      |some (v,τ)=>some {slot:=uf o v,upd:=((Lj h lock l).map λk=>(k,τ.get k))++Ie τ c (τ.next-c),vis:=some l,loc:=[],base:=c,next:=τ.next}
      |none=>none
     else none
    |.ca=>
     match amO (aw1 ops M i) (λ_=>BQ P call o a.eval {h:=H7 h (FT M i b 0),next:=c,lock:=c})with
     |some (v,τ)=>some {slot:=uf o v,upd:=Ie τ c (τ.next-c),vis:=none,loc:=RV M i b 0,base:=c,next:=τ.next}
     |none=>
      if Nu c t (o.looksAt ops)&&Qs c h (Td o a.eval h)then
       match BQ P call o a.eval {h:=mZ h (Td o a.eval h),next:=c,lock:=lock}with
       |some (v,τ)=>some {slot:=uf o v,upd:=((Lj h lock (Td o a.eval h)).map λk=>(k,τ.get k))++Ie τ c (τ.next-c),vis:=some (Td o a.eval h),loc:=[],base:=c,next:=τ.next}
       |none=>none
      else none
def EZ(o:Oper):Bool:=match o.op with
 |.move _|.assign _|.binOp .. |.extract ..=>true
 |_=>false
def qh(ops:W6)(i:Nat):Bool:=match ops[i]? with|some o=>EZ o|none=>false
def YO(ops:W6)(M:Q2):Nat->Nat
 |0=>0
 |k+1=>if(qh ops k ||(List.range k).all λj=>qh ops j ||wZ M j k)=true then YO ops M k else k+1
def qw(ops:W6)(M:Q2)(i:Nat):Bool:=Nat.ble (YO ops M ops.size) i&&!(qh ops i)
def yt:Wm->aC->aC
 |[],J=>J
 |r::rs,J=>yt rs (match r.fin with|some τ=>τ|none=>J)
def NR(P:Program)(call:Caller)(ops:W6)(lock gn n:Nat)(a:Wm)(i:Nat)(t:Tr AV)(h:Tr bP)(c:Nat):Option dX:=
 match ops[i]? with
 |none=>none
 |some o=>
  match Md o ops {t:=mZ t (o.looksAt ops),n:=n,gn:=gn}with
  |none=>none
  |some false=>some {slot:=uf o (some (.fG [])),upd:=[],vis:=some [],loc:=[],base:=c,next:=c,fin:=some (yt a {h:=h,next:=c,lock:=lock})}
  |some true=>match BQ P call o (bM.eval {t:=mZ t (o.looksAt ops),n:=n,gn:=gn}) (yt a {h:=h,next:=c,lock:=lock})with
   |some (v,τ)=>some {slot:=uf o v,upd:=[],vis:=some [],loc:=[],base:=c,next:=c,fin:=some τ}
   |none=>none
def zT(P:Program)(call:Caller)(ops:W6)(M:Q2)(N0 a d n:Nat)(b:Wm)(i:Nat)(t:Tr AV)(h:Tr bP)(c:Nat):Option dX:=
 if qw ops M i=true then NR P call ops a d n b i t h c else Dx P call ops M N0 a d n b i t h c
def QN(P:Program)(call:Caller)(ops:W6)(M:Q2)(N0 b d n:Nat):Nat->List dX->Nat->Tr AV->Tr bP->Nat->Option (Wm×Tr AV×Tr bP×Nat)
 |0,a,_,t,h,c=>some (a,t,h,c)
 |m+1,a,i,t,h,c=>
  match zT P call ops M N0 b d n a i t h c with
  |none=>none
  |some r=>QN P call ops M N0 b d n m (a++[r]) (i+1) (G5 r.slot t) (G5 r.upd h) r.next
def sH(l m:Q2):Bool:=l.all λk=>!(m.contains k)
def SK(ops:W6)(N0:Nat)(i j:Nat)(r s:dX):Bool:=
 let a:=keysOf s.upd
 sH (keysOf r.slot) (keysOf s.slot)&&
 (match ops[i]? with|some o=>sH (o.looksAt ops) (keysOf s.slot)|none=>false)&&
 sH (keysOf r.upd) a&&
 (match r.vis with
  |some l=>sH l a
  |none=>Nat.blt j i ||(a.all (Nat.ble N0 ·)&&sH r.loc a&&Nat.beq s.base s.next))
def amj(ops:W6)(i j:Nat):Bool:=
 match ops[i]?,ops[j]? with
 |some o,some b=>
  match b.dst with
  |none=>true
  |some a=>(match o.dst with|some d=>!(Nat.beq d a)|none=>true)&&!((o.looksAt ops).contains a)
 |_,_=>false
def adK(ops:W6)(M:Q2):Bool:=
 (List.range ops.size).all λi=>(List.range ops.size).all λj=>!(Af M i j) ||amj ops i j
def VP(N0 i j:Nat)(r s:dX):Bool:=
 sH (keysOf r.upd) (keysOf s.upd)&&
 (match r.vis with
  |some l=>sH l (keysOf s.upd)
  |none=>Nat.blt j i ||((keysOf s.upd).all (Nat.ble N0 ·)&&sH r.loc (keysOf s.upd)&&Nat.beq s.base s.next))
def aaB(M:Q2)(N0:Nat)(rs:Wm):Bool:=
 rs.zipIdx.all λ(s,j)=>(s.upd.isEmpty&&Nat.beq s.base s.next) ||rs.zipIdx.all λ(r,i)=>!(Af M i j) ||VP N0 i j r s
def agL(l:Q2):sH l []=true:=by unfold sH;simp
def ay7{ops:W6}{M:Q2}{N0:Nat}{rs:Wm}(a:adK ops M=true)(b:aaB M N0 rs=true)(x:∀(i:Nat) r,rs[i]? =some r->∃o v,ops[i]? =some o/\r.slot=uf o v):
 ∀(i j:Nat) r s,rs[i]? =some r->rs[j]? =some s->Af M i j=true->SK ops N0 i j r s=true:=by
 intro i j r s y z A;obtain⟨o,v,m,n⟩:=x i r y;obtain⟨F,L,f,p⟩:=x j s z;have q:i<ops.size:=(tH.1 m).1;have t:j<ops.size:=(tH.1 f).1;unfold adK at a;rw[List.all_eq_true]at a;have D:=a i (by simpa using q);rw[List.all_eq_true]at D;have c:=D j (by simpa using t);rw[A]at c;simp only[Ze,Bl,amj,m,f]at c;have h:VP N0 i j r s=true:=by
  unfold aaB at b;rw[List.all_eq_true]at b;have g:=b (s,j) (by rw[ant];simpa using z);simp only[qF,aO]at g;rcases g with⟨l,G⟩|g
  ·have H:s.upd=[]:=by simpa using l
   unfold VP;rw[H];simp only[keysOf,jH,agL,aeG,G,Bool.and_self,Bool.or_true];cases r.vis<;>rfl
  ·rw[List.all_eq_true]at g;have l:=g (r,i) (by rw[ant];simpa using y);simp only[A,Ze,Bl]at l;exact l
 unfold VP at h;rw[aO]at h;unfold SK;rw[m];simp only[n,p,h.1,h.2,Uk];unfold uf;cases u:F.dst with
 |none=>simp[keysOf,agL]
 |some E=>
  rw[u]at c;simp only[aO]at c;rw[aO];constructor
  ·cases I:o.dst with
   |none=>simp[keysOf,sH]
   |some d=>
    rw[I]at c;have:=c.1;simp only[keysOf,iU,jH,sH,uG,aeG,Uk,yx]at this⊢;rw[List.contains_cons];simp only[List.contains_nil,MG];cases w:d==E with
    |false=>rfl
    |true=>have e:=eq_of_beq w;subst e;simp at this
  ·have:=c.2;simp only[keysOf,iU,jH,sH,List.all_eq_true,yx]at this⊢;intro k J;rw[List.contains_cons];simp only[List.contains_nil,MG];cases w:k==E with
   |false=>rfl
   |true=>have e:=eq_of_beq w;subst e;rw[aeK.2 J]at this;cases this
def amb(n:Nat)(rs:Wm):Bool:=rs.all λr=>Nat.ble r.base r.next&&r.slot.all λp=>Nat.blt p.1 n
def ZB(P:Program)(call:Caller)(ops:W6)(a:bM)(J:aC):Option (bM×aC):=
 let M:=oQ ops.toList []
 let N0:=J.next
 if RZ M 0&&Nat.ble J.lock J.next then
  match QN P call ops M N0 J.lock a.gn a.n ops.size [] 0 a.t J.h (N0+ops.size)with
  |some (rs,t,h,c)=>
   if adK ops M&&aaB M N0 rs&&amb a.n rs&&Nat.ble c wI then
    some ({a with t:=t},yt rs {h:=h,next:=c,lock:=J.lock})
   else none
  |none=>none
 else none
def ZA(P:Program)(call:Caller)(ops:W6)(a:bM)(J:aC):Option (bM×aC):=
 ZB P call ops a J
end
noncomputable section
variable[aJ]
def IB{a b:Nat}(h:a≠b):Nat.beq a b=false:=by
 cases e:Nat.beq a b with
 |false=>rfl
 |true=>exact absurd (bV e) h
section
variable{α:Type}
def gW:List (Nat×Option α)->Nat->Option (Option α)
 |[],_=>none
 |(k,v)::l,b=>match gW l b with
  |some x=>some x
  |none=>if b=k then some v else none
def aaX:∀(l:List (Nat×Option α))(t:Tr α)(b:Nat),(G5 l t).get b=(gW l b).getD (t.get b)
 |[],t,b=>rfl
 |(k,v)::l,t,b=>by
  rw[G5,aaX l,gW];cases gW l b with
  |some x=>rfl
  |none=>simp only[xC,Tr.yO];split<;>rfl
def AQ:∀(l:List (Nat×Option α))(b:Nat),gW l b≠none↔b∈keysOf l
 |[],b=>by simp[gW,keysOf]
 |(k,v)::l,b=>by
  have a:=AQ l b;simp only[keysOf,iU,bI]at a⊢;rw[gW];cases h:gW l b with
  |some x=>rw[h]at a;simp only[ne_eq,reduceCtorEq,not_false_eq_true,true_iff]at a;simp[a]
  |none=>rw[h]at a;simp only[ne_eq,not_true_eq_false,false_iff]at a;simp only[a,or_false];split<;>simp_all
def RX{l:List (Nat×Option α)}{b:Nat}(h:b∉keysOf l):gW l b=none:=by
 cases a:gW l b with
 |none=>rfl
 |some x=>exact absurd ((AQ l b).1 (by rw[a];simp)) h
def nS:List (List (Nat×Option α))->Nat->(Nat->Bool)->Nat->Option (Option α)
 |[],_,_,_=>none
 |u::a,k,D,b=>match nS a (k+1) D b with
  |some x=>some x
  |none=>if D k=true then gW u b else none
def lG:List (List (Nat×Option α))->Nat->(Nat->Bool)->Tr α->Tr α
 |[],_,_,t=>t
 |u::a,k,D,t=>lG a (k+1) D (if D k=true then G5 u t else t)
def E9:∀(a:List (List (Nat×Option α)))(k:Nat)(D:Nat->Bool)(t:Tr α)(b:Nat),(lG a k D t).get b=(nS a k D b).getD (t.get b)
 |[],_,_,_,_=>rfl
 |u::a,k,D,t,b=>by
  rw[lG,E9 a,nS];cases nS a (k+1) D b with
  |some x=>rfl
  |none=>
   simp only[xC];split
   ·rw[aaX]
   ·rfl
def jY:List (List (Nat×Option α))->Tr α->Tr α
 |[],t=>t
 |u::a,t=>jY a (G5 u t)
def Oz:∀(a:List (List (Nat×Option α)))(k:Nat)(D E:Nat->Bool)(b:Nat),(∀(j:Nat) u,a[j]? =some u->D (k+j)≠E (k+j)->gW u b=none)->nS a k D b=nS a k E b
 |[],_,_,_,_,_=>rfl
 |u::a,k,D,E,b,h=>by
  have f:=Oz a (k+1) D E b (λj v g c=>h (j+1) v (by simpa using g) (by rw[(ah:k+(j+1)=k+1+j)];exact c));have d:=h 0 u aA;rw[nS,nS,f];cases nS a (k+1) E b with
  |some x=>rfl
  |none=>
   simp only[pY]at d;by_cases e:D k=E k
   ·rw[e]
   ·rw[d e];simp
def awZ(a:List (List (Nat×Option α)))(k:Nat)(D:Nat->Bool)(b:Nat)(h:∀j,j<a.length->D (k+j)=false):nS a k D b=none:=by
 induction a generalizing k with
 |nil=>rfl
 |cons u a c=>rw[nS,c (k+1) (λj d=>by rw[(ah:k+1+j=k+(j+1))];exact h (j+1) (by simpa using d))];have:=h 0 aA;simp only[pY]at this;simp[this]
def abK:∀(a:List (List (Nat×Option α)))(k:Nat)(D:Nat->Bool)(b:Nat)(x:Option α),nS a k D b=some x->∃(j:Nat)(u:List (Nat×Option α)),a[j]? =some u/\D (k+j)=true/\gW u b=some x
 |[],_,_,_,_,h=>by simp[nS]at h
 |u::a,k,D,b,x,h=>by
  rw[nS]at h;split at h
  ·next y c=>
   cases h;obtain⟨j,v,h1,d,e⟩:=abK a (k+1) D b _ c;exact⟨j+1,v,by simpa using h1,by rw[(ah:k+(j+1)=k+1+j)];exact d,e⟩
  ·split at h
   ·next f=>exact⟨0,u,aA,by simpa using f,h⟩
   ·cases h
def Oe:∀(a:List (List (Nat×Option α)))(i k:Nat)(t:Tr α)(b:Nat),(jY (a.take i) t).get b=(nS a k (λj=>decide (j<k+i)) b).getD (t.get b)
 |[],i,k,t,b=>by simp[jY,nS]
 |u::a,0,k,t,b=>by rw[awZ _ _ _ _ (λj _=>aA)];rfl
 |u::a,i+1,k,t,b=>by
  have c:=Oe a i (k+1) (G5 u t) b;simp only[BA,jY];rw[c,nS];have:(λj=>decide (j<k+1+i))=λj=>decide (j<k+(i+1)):=by funext j;congr 1;apply propext;omega
  rw[this];cases nS a (k+1) (λj=>decide (j<k+(i+1))) b with
  |some x=>rfl
  |none=>simp only[xC];rw[au aA,aaX]
def abJ:∀(a:List (List (Nat×Option α)))(k i:Nat)(D:Nat->Bool)(b:Nat)(u:List (Nat×Option α)),a[i]? =some u->D (k+i)=false->
 (∀(j:Nat) v,a[j]? =some v->i<j->D (k+j)=true->gW u b≠none->gW v b=none)->
 nS a k (λj=>D j ||Nat.beq j (k+i)) b=match gW u b with|some x=>some x|none=>nS a k D b
 |[],_,_,_,_,_,h,_,_=>by simp at h
 |v::a,k,0,D,b,u,h,d,c=>by
  simp at h;subst h;have tail:nS a (k+1) (λj=>D j ||Nat.beq j (k+0)) b=nS a (k+1) D b:=by refine Oz _ _ _ _ _ λj w l g=>?_;exfalso;apply g;have:Nat.beq (k+1+j) (k+0)=false:=IB ah;simp only[this,MG]
  simp only[nS,tail];simp only[pY]at d⊢;have m:Nat.beq k k=true:=aA;cases f:gW v b with
  |none=>simp[m,d,f]
  |some x=>
   have:nS a (k+1) D b=none:=by
    cases p:nS a (k+1) D b with
    |none=>rfl
    |some y=>obtain⟨j,w,q,r,n⟩:=abK _ _ _ _ _ p;have:=c (j+1) w (by simpa using q) ah (by rw[(ah:k+(j+1)=k+1+j)];exact r) (by rw[f];simp);rw[this]at n;cases n
   simp[this,m,f]
 |v::a,k,i+1,D,b,u,h,d,c=>by
  have o:=abJ a (k+1) i D b u (by simpa using h) (by rw[(ah:k+1+i=k+(i+1))];exact d) (λj w l s t=>c (j+1) w (by simpa using l) ah (by rw[(ah:k+(j+1)=k+1+j)];exact t));have e:(λj=>D j ||Nat.beq j (k+1+i))=λj=>D j ||Nat.beq j (k+(i+1)):=by funext j;congr 2;omega
  rw[e]at o;simp only[nS,o];have z:Nat.beq k (k+(i+1))=false:=IB ah;cases f:gW u b with
  |some x=>simp
  |none=>simp[z]
def DJ(t:Tr α):∀(l:Q2)(b:Nat),(mZ t l).get b=if b∈l then t.get b else none
 |[],b=>by simp[mZ]
 |k::l,b=>by
  rw[mZ,Tr.yO,DJ t l];by_cases e:b=k
  ·subst e;simp
  ·simp[e]
def ahR:∀(l:Q2)(t:Tr α)(b:Nat),(H7 t l).get b=if b∈l then none else t.get b
 |[],t,b=>by simp[H7]
 |k::l,t,b=>by
  rw[H7,ahR l,Tr.yO];by_cases e:b=k
  ·subst e;simp
  ·simp[e]
end
def abT{get:Nat->Nat}{j:Nat}:∀{es:List Edge},(Ci get es).testBit j=true->∃e∈es,Region.binds .any e=true/\(j=e.on\/(get e.on).testBit j=true)
 |[],h=>by simp[Ci]at h
 |e::es,h=>by
  rw[Ci]at h;split at h
  ·next d=>
   rw[UE,UE,qF,qF,Nat.testBit_two_pow]at h;rcases h with(h|h)|h
   ·exact⟨e,aA,d,.inl (DX h).symm⟩
   ·exact⟨e,aA,d,.inr h⟩
   ·obtain⟨a,h1,b,c⟩:=abT h;exact⟨a,by simp[h1],b,c⟩
  ·obtain⟨a,h1,b,c⟩:=abT h;exact⟨a,by simp[h1],b,c⟩
def ajB:∀(os:List Oper)(a:Q2),(oQ os a).length=a.length+os.length/\(∀k,k<a.length->(oQ os a)[k]? =a[k]?)/\
 ∀(k:Nat) o,os[k]? =some o->(oQ os a)[a.length+k]? =some (Ci (λj=>((oQ os a).take (a.length+k)).getD j 0) o.after.toList)
 |[],a=>by simp[oQ]
 |o::os,a=>by
  obtain⟨h1,b,e⟩:=ajB os (a++[Ci (λk=>a.getD k 0) o.after.toList]);rw[oQ];simp only[eH,iD,lK]at h1 b e;refine⟨by simp only[iD];omega,λk f=>?_,λk g c=>?_⟩
  ·rw[b k ah,pG f]
  ·cases k with
   |zero=>
    simp at c;subst c;rw[pY,b a.length ah,yB (dP _)];simp only[Dh,l9];congr 2;funext j;by_cases d:j<a.length
    ·rw[Ak,Ak,oh,au d,b j ah,pG d]
    ·rw[Ak,Ak,oh,aj d,xA ah]
   |succ k=>have:=e k g (by simpa using c);rw[(ah:a.length+1+k=a.length+(k+1))]at this;exact this
def ajC:∀(M:Q2)(k:Nat),RZ M k=true->∀(j m:Nat),M[j]? =some m->m<2^(k+j)
 |[],_,_,j,m,h=>by simp at h
 |x::M,k,h,j,m,a=>by
  simp only[RZ,aO]at h;cases j with
  |zero=>simp at a;subst a;have b:=h.1;rw[jX]at b;simpa using b
  |succ j=>have:=ajC M (k+1) h.2 j m (by simpa using a);rw[(ah:k+(j+1)=k+1+j)];exact this
end
noncomputable section
variable[aJ]
variable{P:Program}
def ZC{F:Env}{τ τ':aC}{w:World}(h:SR P F τ w){call:Caller}(d:uz P call){o:Oper}{a:bM}{A:Act}(j:TR P F a A){r:Q4}{K:Act->World->Prop}{Q:Exit->Act->World->Prop}
 (k:xI P call o a.eval τ=some (r,τ')) (i:∀x F' w',St P F τ w F' τ' w'->(∀v,r=some v->VR F' v x)->K (A.put o.dst x) w'):o.wp P A w K Q:=by
 cases l:Ik o.op with
 |true=>refine afY h d j l k λv x F' w' m b e=>i x F' w' b λu g=>by rw[m]at g;cases g;exact e
 |false=>
  obtain⟨n,w',F',f,b,c⟩:=akb h (λx v e=>QW h j x v e) l k;unfold Oper.wp;rw[f];cases r with
  |none=>subst c;exact i undef F' w' b aA
  |some v=>obtain⟨x,rfl,e⟩:=c;exact i x F' w' b (λu g=>by cases g;exact e)
def Env.cut(F:Env)(c:Nat):Env:=⟨λid=>if id<c then F id else none,F.ro,λid=>decide (id<c)&&F.gh id⟩
def Env.NQ(F:Env)(c:Nat):(F.cut c).le F:=⟨λid q h=>(by
 simp only[Env.cut]at h;split at h
 ·exact h
 ·cases h),λ_ _ h=>h,λ_ h=>(aO _ _▸h:_/\_).2⟩
def Env.agD{F:Env}{c id:Nat}(h:id<c)(a:F.gh id=true):(F.cut c).gh id=true:=by simp[Env.cut,h,a]
mutual
def VR.cut{F:Env}{c:Nat}:∀(a:AV)(v:Value),a.under c=true->VR F a v->VR (F.cut c) a v
 |.b _,_,_,b=>by simpa only[VR]using b
 |.i _ _,_,_,b=>by simpa only[VR]using b
 |.s _,_,_,b=>by simpa only[VR]using b
 |.kG,_,_,b=>by simpa only[VR]using b
 |.p id _,_,d,b=>by simp only[VR]at b⊢;obtain⟨q,h,e⟩:=b;simp only[AV.under,jX]at d;exact⟨q,by simp only[Env.cut];rw[au d];exact h,e⟩
 |.iq,_,_,b=>by simpa only[VR]using b
 |.sl id _ _ _,_,d,b=>by simp only[VR]at b⊢;obtain⟨q,h,e⟩:=b;simp only[AV.under,jX]at d;exact⟨q,by simp only[Env.cut];rw[au d];exact h,e⟩
 |.rQ,_,_,b=>by simpa only[VR]using b
 |.mp id,_,d,b=>by simp only[VR]at b⊢;obtain⟨q,h,e⟩:=b;simp only[AV.under,jX]at d;exact⟨q,by simp only[Env.cut];rw[au d];exact h,e⟩
 |.AU,_,_,b=>by simpa only[VR]using b
 |.fn _ w o,_,d,b=>by simp only[VR]at b⊢;simp only[AV.under,aO]at d;obtain⟨t,u,e,f,g⟩:=b;exact⟨t,u,e,aG.cut w t d.1 f,aG.cut o u d.2 g⟩
 |.vS,_,_,b=>by simpa only[VR]using b
 |.jL _ a,_,d,b=>by simp only[VR]at b⊢;simp only[AV.under]at d;obtain⟨x,e,f⟩:=b;exact⟨x,e,VR.cut a x d f⟩
 |.agg l,_,d,b=>by simp only[VR]at b⊢;simp only[AV.under]at d;obtain⟨x,e,f⟩:=b;exact⟨x,e,aG.cut l x d f⟩
 |.fG l,_,d,b=>by simp only[VR]at b⊢;simp only[AV.under]at d;obtain⟨x,e,f⟩:=b;exact⟨x,e,aG.cut l x d f⟩
 |.z _ _ _,_,_,b=>by simpa only[VR]using b
 |.ro l,_,d,b=>by
  simp only[VR]at b⊢;simp only[AV.under]at d;rcases b with b|⟨r,s,y,j,z,e,A,f,g,m⟩
  ·exact .inl b
  right;exact⟨r,s,y,j,z,e,A,aG.cut l j d f,g,m⟩
 |.rp a _,_,d,b=>by simp only[VR]at b⊢;simp only[AV.under]at d;obtain⟨r,base,o,n,D,x,f,g,m⟩:=b;exact⟨r,base,o,n,D,x,f,VR.cut a x d g,m⟩
 |.nd _,_,_,b=>by simp only[VR]at b⊢;exact b
 |.rx _ _,_,_,b=>by simp only[VR]at b⊢;exact b
 |.sv id _,_,d,b=>by
  simp only[VR]at b⊢;simp only[AV.under,jX]at d;obtain⟨j,f,⟨q,h,g⟩|g⟩:=b
  ·exact⟨j,f,.inl ⟨q,by simp only[Env.cut];rw[au d];exact h,g⟩⟩
  ·exact⟨j,f,.inr ⟨Env.agD d g.1,g.2⟩⟩
 |.pv id _ _,_,d,b=>by simp only[VR]at b⊢;simp only[AV.under,jX]at d;obtain⟨q,k,i,h,g⟩:=b;exact⟨q,k,i,by simp only[Env.cut];rw[au d];exact h,g⟩
 |.pd id _,_,d,b=>by simp only[VR]at b⊢;simp only[AV.under,jX]at d;obtain⟨j,p,f,g,m⟩:=b;exact⟨j,p,f,g,λE=>by obtain⟨q,h,G⟩:=m E;exact⟨q,by simp only[Env.cut];rw[au d];exact h,G⟩⟩
def aG.cut{F:Env}{c:Nat}:∀(l:Q3)(vs:Q6),AV.rX c l=true->aG F l vs->aG (F.cut c) l vs
 |[],_,_,b=>by simpa only[aG]using b
 |a::l,_,d,b=>by simp only[aG]at b⊢;simp only[AV.rX,aO]at d;obtain⟨x,xs,e,h1,f⟩:=b;exact⟨x,xs,e,VR.cut a x d.1 h1,aG.cut l xs d.2 f⟩
end
def amN{c:Nat}:∀{l:Q3}{k:Nat}{a:AV},AV.rX c l=true->l[k]? =some a->a.under c=true
 |[],k,a,_,h=>by simp at h
 |x::l,k,a,b,h=>by
  simp only[AV.rX,aO]at b;cases k with
  |zero=>simp at h;subst h;exact b.1
  |succ k=>exact amN b.2 (by simpa using h)
def OR.cut{F:Env}{c:Nat}{q:Place}{w:World}{o:bP}(j:Dt c o=true)(h:OR P F q w o):OR P (F.cut c) q w o:=by
 cases o with
 |cells l H rw I=>obtain⟨v,d,y,i,r⟩:=h;exact⟨v,d,y,i,{r with cell:=λk a g=>by obtain⟨x,J,L⟩:=r.cell k a g;exact⟨x,J,VR.cut a x (amN j g) L⟩}⟩
 |iter s pos=>exact h
 |map es=>obtain⟨z,b,i,p,u⟩:=h;refine⟨z,b,i,p,λk e g=>?_⟩;obtain⟨m,A,D,E⟩:=u k e g;simp only[Dt,List.all_eq_true,aO]at j;have:=j e (tN g);exact⟨m,A,VR.cut _ _ this.1 D,VR.cut _ _ this.2 E⟩
 |iterM m=>
  cases m with
  |none=>exact h
  |some m=>obtain⟨N,t,last,O,i,p⟩:=h;simp only[Dt,jX]at j;exact⟨N,t,last,O,by simp only[Env.cut];rw[au j];exact i,p⟩
 |smap n Y Z=>exact h
 |pmap es=>obtain⟨Q,z,b,G,i,R,p,u⟩:=h;refine⟨Q,z,b,G,i,R,p,λk e g=>?_⟩;obtain⟨m,A,D,E⟩:=u k e g;simp only[Dt,List.all_eq_true]at j;exact⟨m,A,D,VR.cut _ _ (j e (tN g)) E⟩
 |vec n H f=>obtain⟨S,v,d,y,T,i,p,u,U,V,W,r,X⟩:=h;exact⟨S,v,d,y,T,i,p,u,U,V,W,{r with cell:=λk a g=>by simp at g},X⟩
def St.merge{F Z vw F':Env}{J J' τ τ':aC}{w w':World}{upd:WP}(v:SR P F J w)(WE:SR P Z τ w)(a:St P Z τ w vw τ' w')(sub:∀id o,τ.get id=some o->J.get id=some o)(hi:Z.le F)(aa:Z.ro=F.ro)(WQ:F'.ro=vw.ro)
 (h1:F.le F') (h2:vw.le F') (hg:∀b,J'.get b=(gW upd b).getD (J.get b))
 (V:∀b o,gW upd b=some (some o)->τ'.get b=some o/\((∃o0,τ.get b=some o0/\o0.own=true)\/(o.own=true/\τ.get b=none)))
 (PS:∀id o,τ.get id=some o->o.own=true->τ.lock<=id->gW upd id≠none) (N:J.lock<=τ.lock) (Fh:∀b,gW upd b≠none->τ.lock<=b)
 (ac:∀id q,F' id=some q->id<J'.next) (O:∀id,F'.gh id=true->F' id=none/\id<J'.next):
 SR P F' J' w'/\w.heap.size<=w'.heap.size/\
 (∀bl,bl<w.heap.size->(∀id o q,J.get id=some o->o.own=true->J.lock<=id->F id=some q->q.bl≠bl)->w'.heap[bl]? =w.heap[bl]?)/\
 (∀id o q,J'.get id=some o->o.own=true->J.lock<=id->F' id=some q->w.heap.size<=q.bl\/∃d o0 i,J.get d=some o0/\o0.own=true/\J.lock<=d/\F d=some i/\i.bl=q.bl)/\
 (∀b,F'.ro b≠none->F.ro b≠none\/w.heap.size<=b\/∃d o0 i,J.get d=some o0/\o0.own=true/\J.lock<=d/\F d=some i/\i.bl=b):=by
 have Q:∀b o q,gW upd b=none->J.get b=some o->F b=some q->q.bl<w.heap.size->w'.heap[q.bl]? =w.heap[q.bl]?:=by intro b o q s n L ad;refine a.keep _ ad ?_;intro id o2 q2 y l z A;have ae:id≠b:=λe=>PS id o2 y l z (by rw[e];exact s);exact v.sep id o2 b o q2 q (sub _ _ y) l n ae (hi.pl _ _ A) L
 have c:∀b o q,gW upd b=some (some o)->F' b=some q->OR P F' q w' o/\vw b=some q:=by
  intro b o q s j;rcases a.rel.live b o (V b o s).1 with⟨p,R,S⟩|⟨t,_⟩
  ·have:=h2.pl _ _ R;rw[j]at this;cases this;exact⟨S.mono h2,R⟩
  ·rw[(O b (h2.gh b t)).1]at j;cases j
 have m:∀id o q,J.get id=some o->F' id=some q->F id=some q/\OR P F q w o:=by
  intro id o q n j;rcases v.live id o n with⟨p,R,S⟩|⟨t,_⟩
  ·have:=h1.pl _ _ R;rw[j]at this;cases this;exact⟨R,S⟩
  ·rw[(O id (h1.gh id t)).1]at j;cases j
 have T:∀b o q,gW upd b=some (some o)->vw b=some q->(w.heap.size<=q.bl)\/(∃d o0 i,τ.get d=some o0/\o0.own=true/\τ.lock<=d/\Z d=some i/\i.bl=q.bl):=by
  intro b o q s L;obtain⟨h4,W⟩:=V b o s;rcases W with⟨o0,h6,h7⟩|⟨h6,h7⟩
  ·rcases WE.live b o0 h6 with⟨p',ab,_⟩|⟨t,_⟩
   ·have:=a.ext.pl _ _ ab;rw[L]at this;cases this;exact .inr ⟨b,o0,q,h6,h7,Fh b (by rw[s];simp),ab,rfl⟩
   ·rw[(a.rel.kZ b (a.ext.gh b t)).1]at L;cases L
  ·rcases a.own b o q h4 h6 (Fh b (by rw[s];simp)) L with h8|h8
   ·exact .inl h8
   ·exact .inr h8
 have QG:∀id o,J'.get id=some o->(gW upd id=some (some o))\/(gW upd id=none/\J.get id=some o):=by
  intro id o n;rw[hg]at n;cases hl:gW upd id with
  |none=>rw[hl]at n;exact .inr ⟨rfl,n⟩
  |some x=>rw[hl]at n;simp only[uK]at n;subst n;exact .inl rfl
 refine⟨⟨?_,ac,?_,O,?_,λb o s=>a.rel.jF b o (by rw[<-WQ];exact s),?_,λp R=>(v.tabs p R).mono h1⟩,a.size,?_,?_,?_⟩
 ·intro g af;obtain⟨sz,es,W⟩:=v.oO g af;exact⟨sz,es,h1.pl _ _ W⟩
 ·intro id o n;rcases QG id o n with h4|⟨h4,W⟩
  ·exact(a.rel.live id o (V id o h4).1).mono h2
  ·exact((v.live id o W).heap (w:=w) λq L S=>Q id o q h4 W L S.lt).mono h1
 ·intro id o h D q X y l z A a5 a6;rcases QG id o y with k|⟨k,f⟩<;>rcases QG h D z with Y|⟨Y,E⟩
  ·obtain⟨_,U⟩:=c id o q k a5;obtain⟨_,c4⟩:=c h D X Y a6;exact a.rel.sep id o h D _ _ (V _ _ k).1 l (V _ _ Y).1 A U c4
  ·obtain⟨_,U⟩:=c id o q k a5;obtain⟨d1,d2⟩:=m h D X E a6;rcases T id o q k U with e|⟨d,o0,i,r,u,G,H,I⟩
   ·have:=d2.lt;omega
   ·rw[<-I];exact v.sep d o0 h D i X (sub _ _ r) u E (λe=>PS d o0 r u G (by rw[e];exact Y)) (hi.pl _ _ H) d1
  ·obtain⟨_,c4⟩:=c h D X Y a6;obtain⟨d1,d2⟩:=m id o q f a5;rcases T h D X Y c4 with e|⟨d,o0,i,r,u,G,H,I⟩
   ·have:=d2.lt;omega
   ·rw[<-I];exact v.sep id o d o0 q i f l (sub _ _ r) (λe=>PS d o0 r u G (by rw[<-e];exact k)) d1 (hi.pl _ _ H)
  ·exact v.sep id o h D _ _ f l E A (m id o q f a5).1 (m h D X E a6).1
 ·intro id o q y l z;rcases QG id o y with k|⟨k,f⟩
  ·obtain⟨_,U⟩:=c id o q k z;rw[WQ];exact a.rel.ng id o q (V _ _ k).1 l U
  ·obtain⟨d1,d2⟩:=m id o q f z;cases S:F'.ro q.bl with
   |none=>rfl
   |some o2=>
    exfalso;rcases a.tC q.bl (by rw[<-WQ,S];simp)with e|e|⟨d,o0,i,r,u,G,H,I⟩
    ·rw[aa,v.ng id o q f l d1]at e;exact e rfl
    ·have:=d2.lt;omega
    ·exact v.sep d o0 id o i q (sub _ _ r) u f (λe=>PS d o0 r u G (by rw[e];exact k)) (hi.pl _ _ H) d1 I
 ·intro bl ag ai;exact a.keep bl ag λid o q y l z A=>ai id o q (sub _ _ y) l (kW N z) (hi.pl _ _ A)
 ·intro id o q y l z A;rcases QG id o y with k|⟨k,f⟩
  ·obtain⟨_,U⟩:=c id o q k A;rcases T id o q k U with e|⟨d,o0,i,r,u,G,H,I⟩
   ·exact .inl e
   ·exact .inr ⟨d,o0,i,sub _ _ r,u,kW N G,hi.pl _ _ H,I⟩
  ·obtain⟨d1,_⟩:=m id o q f A;exact .inr ⟨id,o,q,f,l,z,d1,rfl⟩
 ·intro b s;rcases a.tC b (by rw[<-WQ];exact s)with e|e|⟨d,o0,i,r,u,G,H,I⟩
  ·rw[aa]at e;exact .inl e
  ·exact .inr (.inl e)
  ·exact .inr (.inr ⟨d,o0,i,sub _ _ r,u,kW N G,hi.pl _ _ H,I⟩)
def St.then{F0 F F':Env}{J0 J J':aC}{w0 w w':World}(h:St P F0 J0 w0 F J w)(n:F.le F')(rel:SR P F' J' w')(size:w.heap.size<=w'.heap.size)
 (keep:∀bl,bl<w.heap.size->(∀id o q,J.get id=some o->o.own=true->J.lock<=id->F id=some q->q.bl≠bl)->w'.heap[bl]? =w.heap[bl]?)
 (own:∀id o q,J'.get id=some o->o.own=true->J.lock<=id->F' id=some q->w.heap.size<=q.bl\/∃f o0 g,J.get f=some o0/\o0.own=true/\J.lock<=f/\F f=some g/\g.bl=q.bl)
 (os:w'.os=w.os) (tape:w'.tape=w.tape) (output:w'.output=w.output) (lock:J'.lock=J.lock) (next:J.next<=J'.next)
 (new:∀id,F'.has id->F.has id\/(J0.next<=id/\id<J'.next))
 (tC:∀b,F'.ro b≠none->F.ro b≠none\/w.heap.size<=b\/∃f o0 g,J.get f=some o0/\o0.own=true/\J.lock<=f/\F f=some g/\g.bl=b):St P F0 J0 w0 F' J' w':=by
 refine⟨h.ext.trans n,rel,kW h.size size,?_,?_,os.trans h.os,tape.trans h.tape,output.trans h.output,lock.trans h.lock,kW h.next next,?_,?_⟩
 ·intro bl j k;rw[keep bl (zH j h.size) ?_,h.keep bl j k];intro id o q h1 m i l;rcases h.own id o q h1 m (h.lock▸i) l with x|⟨f,o0,g,a,b,c,d,e⟩
  ·omega
  ·rw[<-e];exact k f o0 g a b c d
 ·intro id o q h1 m i l;rcases own id o q h1 m (by rw[h.lock];exact i) l with x|⟨f,o0,g,a,b,c,d,e⟩
  ·exact .inl (kW h.size x)
  ·rcases h.own f o0 g a b (h.lock▸c) d with N|⟨p,o1,y,r,s,t,d1,u⟩
   ·left;omega
   ·exact .inr ⟨p,o1,y,r,s,t,d1,u.trans e⟩
 ·intro id z;rcases new id z with h1|h1
  ·rcases h.new id h1 with i|⟨i,l⟩
   ·exact .inl i
   ·exact .inr ⟨i,zH l next⟩
  ·exact .inr h1
 ·intro b A;rcases tC b A with h1|h1|⟨f,o0,g,r,s,t,d1,u⟩
  ·exact h.tC b h1
  ·exact .inr (.inl (kW h.size h1))
  ·rcases h.own f o0 g r s (h.lock▸t) d1 with m|⟨v,D,E,G,H,I,d2,L⟩
   ·right;left;omega
   ·exact .inr (.inr ⟨v,D,E,G,H,I,d2,L.trans u⟩)
def mG(rs:Wm):List (List (Nat×Q4)):=rs.map (·.slot)
def iQ(rs:Wm):List WP:=rs.map (·.upd)
def kF:Nat->List dX->Nat->Nat
 |c,_,0=>c
 |c,[],_=>c
 |_,r::rs,k+1=>kF r.next rs k
def agE{call:Caller}{ops:W6}{M:Q2}{N0 b l n:Nat}:∀(m:Nat)(a:Wm)(i:Nat)(t:Tr AV)(h:Tr bP)(c:Nat)(rs:Wm)(e:Tr AV)(f:Tr bP)(g:Nat),
 QN P call ops M N0 b l n m a i t h c=some (rs,e,f,g)->∃new,rs=a++new/\new.length=m/\e=jY (mG new) t/\f=jY (iQ new) h/\g=kF c new m/\
  ∀(k:Nat) r,new[k]? =some r->zT P call ops M N0 b l n (a++new.take k) (i+k) (jY ((mG new).take k) t) (jY ((iQ new).take k) h) (kF c new k)=some r
 |0,a,i,t,h,c,rs,e,f,g,d=>by simp only[QN,bF,qI]at d;obtain⟨rfl,rfl,rfl,rfl⟩:=d;exact⟨[],aA,rfl,rfl,rfl,rfl,aA⟩
 |m+1,a,i,t,h,c,rs,e,f,g,d=>by
  unfold QN at d;split at d
  ·cases d
  ·next r o=>
   obtain⟨new,p,q,u,v,w,x⟩:=agE m _ _ _ _ _ _ _ _ _ d;refine⟨r::new,by rw[p];simp,by simp[q],?_,?_,?_,?_⟩
   ·rw[u];rfl
   ·rw[v];rfl
   ·rw[w];rfl
   ·intro k s j;cases k with
    |zero=>simp at j;subst j;simpa[jY,mG,iQ,kF]using o
    |succ k=>have:=x k s (by simpa using j);rw[(ah:i+1+k=i+(k+1))]at this;simp only[List.append_assoc,MS]at this;simpa[mG,iQ,jY,kF]using this
def asM{call:Caller}{ops:W6}{M:Q2}{N0 b e n i c:Nat}{d:Wm}{t:Tr AV}{h:Tr bP}{r:dX}(a:Dx P call ops M N0 b e n d i t h c=some r):r.base=c:=by
 unfold Dx at a;split at a
 ·cases a
 ·simp only at a;split at a
  ·cases a
  ·cases a;rfl
  ·split at a
   ·split at a
    ·cases a;rfl
    ·cases a
   ·split at a
    ·split at a
     ·split at a
      ·cases a;rfl
      ·cases a
     ·cases a
    ·split at a
     ·split at a
      ·cases a;rfl
      ·cases a
     ·cases a
    ·split at a
     ·split at a
      ·cases a;rfl
      ·cases a
     ·cases a
    ·split at a
     ·cases a;rfl
     ·split at a
      ·split at a
       ·cases a;rfl
       ·cases a
      ·cases a
def asN{call:Caller}{ops:W6}{M:Q2}{N0 d f n i c:Nat}{e:Wm}{t:Tr AV}{h:Tr bP}{r:dX}(a:Dx P call ops M N0 d f n e i t h c=some r):∃o v,ops[i]? =some o/\r.slot=uf o v:=by
 unfold Dx at a;split at a
 ·cases a
 ·next o b=>
  simp only at a;split at a
  ·cases a
  ·cases a;exact⟨o,_,b,rfl⟩
  ·split at a
   ·split at a
    ·cases a;exact⟨o,_,b,rfl⟩
    ·cases a
   ·split at a
    ·split at a
     ·split at a
      ·cases a;exact⟨o,_,b,rfl⟩
      ·cases a
     ·cases a
    ·split at a
     ·split at a
      ·cases a;exact⟨o,_,b,rfl⟩
      ·cases a
     ·cases a
    ·split at a
     ·split at a
      ·cases a;exact⟨o,_,b,rfl⟩
      ·cases a
     ·cases a
    ·split at a
     ·cases a;exact⟨o,_,b,rfl⟩
     ·split at a
      ·split at a
       ·cases a;exact⟨o,_,b,rfl⟩
       ·cases a
      ·cases a
def asP{call:Caller}{ops:W6}{M:Q2}{N0 b e n i c:Nat}{d:Wm}{t:Tr AV}{h:Tr bP}{r:dX}(a:Dx P call ops M N0 b e n d i t h c=some r):r.fin=none:=by
 unfold Dx at a;split at a
 ·cases a
 ·simp only at a;split at a
  ·cases a
  ·cases a;rfl
  ·split at a
   ·split at a
    ·cases a;rfl
    ·cases a
   ·split at a
    ·split at a
     ·split at a
      ·cases a;rfl
      ·cases a
     ·cases a
    ·split at a
     ·split at a
      ·cases a;rfl
      ·cases a
     ·cases a
    ·split at a
     ·split at a
      ·cases a;rfl
      ·cases a
     ·cases a
    ·split at a
     ·cases a;rfl
     ·split at a
      ·split at a
       ·cases a;rfl
       ·cases a
      ·cases a
def asO{call:Caller}{ops:W6}{M:Q2}{N0 b e n i c:Nat}{d:Wm}{t:Tr AV}{h:Tr bP}{r:dX}(a:zT P call ops M N0 b e n d i t h c=some r):r.base=c:=by
 unfold zT at a;split at a
 ·unfold NR at a;split at a
  ·cases a
  ·split at a
   ·cases a
   ·cases a;rfl
   ·split at a
    ·cases a;rfl
    ·cases a
 ·exact asM a
def asQ{call:Caller}{ops:W6}{M:Q2}{N0 b f n i c:Nat}{d:Wm}{t:Tr AV}{h:Tr bP}{r:dX}(a:zT P call ops M N0 b f n d i t h c=some r):∃o v,ops[i]? =some o/\r.slot=uf o v:=by
 unfold zT at a;split at a
 ·unfold NR at a;split at a
  ·cases a
  ·next o e=>
   split at a
   ·cases a
   ·cases a;exact⟨o,_,e,rfl⟩
   ·split at a
    ·cases a;exact⟨o,_,e,rfl⟩
    ·cases a
 ·exact asN a
structure uD(ops:W6)(M:Q2)(rs:Wm)(n N0:Nat):Prop where
 hM:M=oQ ops.toList []
 mok:RZ M 0=true
 len:rs.length=ops.size
 pairs:∀(i j:Nat) r s,rs[i]? =some r->rs[j]? =some s->Af M i j=true->SK ops N0 i j r s=true
 slot:∀(i:Nat) r,rs[i]? =some r->r.base<=r.next/\∀p∈r.slot,p.1<n
structure Ctx(P:Program)(call:Caller)(ops:W6)(M:Q2)(rs:Wm)(a0:bM)(J0:aC)(cf:Nat):Prop extends uD ops M rs a0.n J0.next where
 one:∀(i:Nat) r,rs[i]? =some r->zT P call ops M J0.next J0.lock a0.gn a0.n (rs.take i) i (jY ((mG rs).take i) a0.t) (jY ((iQ rs).take i) J0.h) (kF (J0.next+ops.size) rs i)=some r
 fin:cf=kF (J0.next+ops.size) rs ops.size
 big:cf<=wI
 lock:J0.lock<=J0.next
section
variable{call:Caller}{ops:W6}{M:Q2}{rs:Wm}{a0:bM}{J0:aC}{cf nn N0:Nat}
def QE:∀(rs:Wm)(c k:Nat)(r:dX),rs[k]? =some r->kF c rs (k+1)=r.next
 |[],c,k,r,h=>by simp at h
 |s::rs,c,0,r,h=>by simp at h;subst h;cases rs<;>rfl
 |s::rs,c,k+1,r,h=>by
  show kF s.next rs (k+1)=r.next
  exact QE rs s.next k r (by simpa using h)
def Ctx.base(C:Ctx P call ops M rs a0 J0 cf){i:Nat}{r:dX}(h:rs[i]? =some r):r.base=kF (J0.next+ops.size) rs i:=asO (C.one i r h)
def Ctx.mono(C:Ctx P call ops M rs a0 J0 cf):∀(k i:Nat),i+k<=rs.length->kF (J0.next+ops.size) rs i<=kF (J0.next+ops.size) rs (i+k)
 |0,i,_=>dP _
 |k+1,i,h=>by have c:=C.mono k i ah;have a:i+k<rs.length:=ah;have b:rs[i+k]? =some rs[i+k]:=bZ a;have:=(C.slot _ _ b).1;rw[C.base b]at this;rw[(ah:i+(k+1)=(i+k)+1),QE rs _ _ _ b];omega
def Ctx.lt(C:Ctx P call ops M rs a0 J0 cf){i j:Nat}{r s:dX}(hi:rs[i]? =some r)(a:rs[j]? =some s)(h:i<j):r.next<=s.base:=by have b:=(gu.1 a).1;have:=C.mono (j-(i+1)) (i+1) ah;rw[QE rs _ _ _ hi,(ah:i+1+(j-(i+1))=j)]at this;rw[C.base a];exact this
def Ctx.lo(C:Ctx P call ops M rs a0 J0 cf){i:Nat}{r:dX}(hi:rs[i]? =some r):J0.next+ops.size<=r.base:=by have:=C.mono i 0 (by have:=(gu.1 hi).1;omega);rw[C.base hi];simpa[kF]using this
def Ctx.hi(C:Ctx P call ops M rs a0 J0 cf){i:Nat}{r:dX}(hi:rs[i]? =some r):r.next<=cf:=by have a:=(gu.1 hi).1;have:=C.mono (ops.size-(i+1)) (i+1) (by have:=C.len;omega);rw[QE rs _ _ _ hi,show i+1+(ops.size-(i+1))=ops.size by have:=C.len;omega]at this;rw[C.fin];exact this
def Ctx.aac(C:Ctx P call ops M rs a0 J0 cf):J0.next+ops.size<=cf:=by have:=C.mono ops.size 0 (by have:=C.len;omega);rw[C.fin];simpa[kF]using this
def uD.mask(C:uD ops M rs nn N0){i:Nat}{o:Oper}(b:ops[i]? =some o):M[i]? =some (Ci (λj=>(M.take i).getD j 0) o.after.toList)/\M.length=ops.size:=by obtain⟨a,_,c⟩:=ajB ops.toList [];have:=c i o (by simpa using b);simp only[lK,mQ]at this a;rw[C.hM];exact⟨this,by simpa using a⟩
def Closed(ops:W6)(D:Nat->Bool):Prop:=∀i o,D i=true->ops[i]? =some o->∀e∈o.after.toList,Region.binds .any e=true->D e.on=true
def uD.uN(C:uD ops M rs nn N0){D:Nat->Bool}(k:Closed ops D):∀(i:Nat)(o:Oper),ops[i]? =some o->(∀e∈o.after.toList,Region.binds .any e=true->D e.on=true)->∀j,wZ M j i=true->D j=true:=by
 intro i;induction i using Nat.strongRecOn with
 |_ i l=>
  intro o m n j c;obtain⟨p,t⟩:=C.mask m;unfold wZ at c;rw[Ak,p]at c;obtain⟨e,q,r,h1⟩:=abT c;have a:=n e q r;rcases h1 with rfl|h1
  ·exact a
  ·rw[Ak,oh]at h1;split at h1
   ·next d=>
    by_cases f:e.on<ops.size
    ·have b:ops[e.on]? =some ops[e.on]:=by simp[f]
     refine l e.on d ops[e.on] b (λs g h=>k e.on _ a b s g h) j ?_;unfold wZ;rw[Ak];exact h1
    ·rw[xA ah]at h1;simp at h1
   ·simp at h1
def uD.acj(C:uD ops M rs nn N0){i j:Nat}(h:wZ M j i=true):j<i:=by
 unfold wZ at h;rw[Ak]at h;cases b:M[i]? with
 |none=>rw[b]at h;simp at h
 |some m=>rw[b]at h;have a:=ajC M 0 C.mok i m b;simp only[mQ,uK]at a h;exact Nat.lt_of_not_le λc=>by have:=Nat.testBit_lt_two_pow (zH a (UD ah c));rw[this]at h;cases h
def uD.open_(C:uD ops M rs nn N0){D:Nat->Bool}(c:Closed ops D){i j:Nat}{o:Oper}(k:ops[i]? =some o)(hi:D i=false)(l:∀e∈o.after.toList,Region.binds .any e=true->D e.on=true)
 (m:j<ops.size) (a:D j≠decide (j<i)):Af M i j=true:=by
 have d:i≠j:=by rintro rfl;rw[hi]at a;simp at a
 have n:wZ M j i=false:=by
  cases h:wZ M j i with
  |false=>rfl
  |true=>have f:=C.uN c i o k l j h;have g:=C.acj h;rw[f]at a;simp[g]at a
 have f:wZ M i j=false:=by
  cases h:wZ M i j with
  |false=>rfl
  |true=>
   have g:=C.acj h;have p:D j=true:=by
    cases q:D j with
    |true=>rfl
    |false=>rw[q]at a;simp at a;omega
   have b:ops[j]? =some ops[j]:=by simp[m]
   have:=C.uN c j _ b (λe r s=>c j _ p b e r s) i h;rw[this]at hi;cases hi
 unfold Af;rw[IB d,n,f];rfl
def QU{l m:Q2}(h:sH l m=true){b:Nat}(a:b∈l):b∉m:=by unfold sH at h;rw[List.all_eq_true]at h;have:=h b a;simpa using this
