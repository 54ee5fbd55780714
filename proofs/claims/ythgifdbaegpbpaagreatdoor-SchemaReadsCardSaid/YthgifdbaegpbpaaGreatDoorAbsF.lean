/- Regions whose order Go leaves open: the evaluator goes by the text, and looks whether another order could make a difference. -/
import Derived.Test.YthgifdbaegpbpaaGreatDoorAbsE
namespace Go.aK
set_option linter.unusedSimpArgs false
noncomputable section
variable [fZ]
set_option linter.unusedSectionVars false
set_option linter.unusedVariables false
def wY (get:Nat->Nat):List Edge->Nat
 | []=>0
 | e::es=>if Region.binds .any e then (2 ^ e.on ||| get e.on) ||| wY get es else wY get es
def jZ:List Oper->List Nat->List Nat
 | [],acc=>acc
 | o::os,acc=>jZ os (acc++[wY (λk=>acc.getD k 0) o.after.toList])
def pX (M:List Nat) (j i:Nat):Bool:=(M.getD i 0).testBit j
def uY (M:List Nat) (i j:Nat):Bool:=!(Nat.beq i j)&&!(pX M j i)&&!(pX M i j)
def Gx:List Nat->Nat->Bool
 | [],_=>true
 | m::ms,i=>Nat.blt m (2 ^ i)&&Gx ms (i+1)
def zX {α:Type}:List (Nat×Option α)->Tr α->Tr α
 | [],t=>t
 | (k,v)::l,t=>zX l (t.set k v)
def gX {α:Type} (t:Tr α):List Nat->Tr α
 | []=>.nil
 | k::l=>(gX t l).set k (t.get k)
def BU {α:Type} (t:Tr α):List Nat->Tr α
 | []=>t
 | k::l=>BU (t.set k none) l
mutual
def AV.under (c:Nat):AV->Bool
 | .p id _=>Nat.blt id c
 | .sl id _ _ _=>Nat.blt id c
 | .mp id=>Nat.blt id c
 | .fn _ fi cs=>AV.nS c fi&&AV.nS c cs
 | .dM _ a=>a.under c
 | .agg l=>AV.nS c l
 | .dG l=>AV.nS c l
 | .ro l=>AV.nS c l
 | .rp a _=>a.under c
 | .sv id _=>Nat.blt id c
 | .pv id _ _=>Nat.blt id c
 | .pd id _=>Nat.blt id c
 | _=>true
def AV.nS (c:Nat):List AV->Bool
 | []=>true
 | a::l=>a.under c&&AV.nS c l
end
def yw (c:Nat):bg->Bool
 | .cells l _ _ _=>AV.nS c l
 | .iter _ _=>true
 | .map es=>es.all λe=>e.1.under c&&e.2.under c
 | .iterM (some m)=>Nat.blt m c
 | .iterM none=>true
 | .vec _ _ _=>true
 | .smap _ _ _=>true
 | .pmap es=>es.all λe=>e.2.under c
def IJ (c:Nat) (h:Tr bg):List Nat->Bool
 | []=>true
 | k::l=>Nat.blt k c&&(match h.get k with | some o=>yw c o | none=>true)&&IJ c h l
def FD (c:Nat) (t:Tr AV):List Nat->Bool
 | []=>true
 | k::l=>(match t.get k with | some v=>v.under c | none=>true)&&FD c t l
structure bM where
 slot:List (Nat×Option AV)
 upd:List (Nat×Option bg)
 vis:Option (List Nat)
 loc:List Nat
 base:Nat
 next:Nat
 fin:Option au:=none
inductive Cls where
 | na (vis:List Nat)
 | wr (w:List Nat)
 | sa (w:List Nat)
 | ca
def aiT:AV->List Nat
 | .p id _=>[id]
 | .sl id _ _ _=>[id]
 | .mp id=>[id]
 | .sv id _=>[id]
 | .pv id _ _=>[id]
 | .pd id _=>[id]
 | _=>[]
def uP (ev:Operand->Option AV) (x:Operand):List Nat:=match ev x with | some a=>aiT a | none=>[]
def Yk (o:Oper) (ev:Operand->Option AV):Cls:=
 match o.op with
 | .load _ a=>.na (uP ev a)
 | .indexAddr _ x _=>.na (uP ev x)
 | .store _ a _=>.wr (uP ev a)
 | .box .. | .buildSlice .. | .makeSlice .. | .makeMap ..=>.sa []
 | .convert _ _ x=>.sa (uP ev x)
 | .slice _ x _ _ _=>.na (uP ev x)
 | .lookup _ m _ _=>.na (uP ev m)
 | .mapUpdate _ m _ _ | .insert _ m _ _=>.wr (uP ev m)
 | .range _ x=>.sa (uP ev x)
 | .next it _=>.wr (uP ev it)
 | .call c=>match c.callee with
   | .builtin .len=>.na (c.args.toList.flatMap (uP ev))
   | .builtin .append | .builtin .copy | .builtin .clear=>.sa (c.args.toList.flatMap (uP ev))
   | .builtin .unsafeSliceData=>.na (c.args.toList.flatMap (uP ev))
   | .builtin .unsafeString=>.wr (c.args.toList.flatMap (uP ev))
   | .builtin _=>.na []
   | _=>.ca
 | _=>.na []
def qN:Nat:=2 ^ 64
def lT (o:Oper) (v:Option AV):List (Nat×Option AV):=match o.dst with | some d=>[(d,v)] | none=>[]
def Cc (τ:au):Nat->Nat->List (Nat×Option bg)
 | _,0=>[]
 | c,n+1=>(c,match τ.get c with | some o=>if o.own then some o else none | none=>none)::Cc τ (c+1) n
def keysOf {α:Type} (l:List (Nat×Option α)):List Nat:=l.map (·.1)
def AO (M:List Nat) (i:Nat):List bM->Nat->List Nat
 | [],_=>[]
 | r::rs,j=>if uY M i j then keysOf r.upd++AO M i rs (j+1) else AO M i rs (j+1)
def JC (M:List Nat) (i:Nat):List bM->Nat->List Nat
 | [],_=>[]
 | r::rs,j=>if uY M i j then JC M i rs (j+1) else keysOf r.upd++JC M i rs (j+1)
def Es (h:Tr bg) (lock:Nat) (l:List Nat):List Nat:=l.filter λk=>Nat.ble lock k&&(match h.get k with | some o=>o.own | none=>false)
mutual
def Fz:AV->List Nat
 | .p id _ | .sl id _ _ _ | .mp id | .sv id _ | .pv id _ _ | .pd id _=>[id]
 | .fn _ fs cs=>FB fs++FB cs
 | .dM _ v=>Fz v
 | .agg l=>FB l
 | .dG l=>FB l
 | _=>[]
def FB:List AV->List Nat
 | []=>[]
 | a::l=>Fz a++FB l
end
def akk:bg->List Nat
 | .cells l _ _ _=>FB l
 | .map es=>es.flatMap λe=>Fz e.1++Fz e.2
 | .pmap es=>es.flatMap λe=>Fz e.2
 | .iterM (some m)=>[m]
 | _=>[]
def U0 (h:Tr bg):Nat->List Nat->List Nat->List Nat
 | 0,_,seen=>seen
 | _+1,[],seen=>seen
 | f+1,k::todo,seen=>bif seen.contains k then U0 h f todo seen else U0 h f ((match h.get k with | some o=>akk o | none=>[])++todo) (k::seen)
def JU (o:Oper) (ev:Operand->Option AV) (h:Tr bg):List Nat:=
 U0 h 1000 (o.op.operands.toList.flatMap λx=>match ev x with | some v=>Fz v | none=>[]) []
def aj7 (ops:Array Oper) (j:Nat):Bool:=match ops[j]? with
 | some o=>match o.op with
   | .buildSlice .. | .makeSlice .. | .makeMap ..=>true
   | _=>false
 | none=>false
def ajc (ops:Array Oper) (M:List Nat) (i:Nat):Bool:=(List.range ops.size).any λj=>Nat.blt i j&&aj7 ops j&&uY M i j
def adp {α:Type} (b:Bool) (x:Unit->Option α):Option α:=bif b then none else x ()
theorem aq4 {α:Type} {b:Bool} {x:Unit->Option α} {y:α} (h:adp b x=some y):x ()=some y:=by
 cases b with
 | true=>cases h
 | false=>exact h
def yC (P:Program) (call:Caller) (ops:Array Oper) (M:List Nat) (N0 lock gn n:Nat) (prev:List bM) (i:Nat) (t:Tr AV) (h:Tr bg) (c:Nat):Option bM:=
 match ops[i]? with
 | none=>none
 | some o=>
   let a:aU:={ t:=gX t (o.looksAt ops),n:=n,gn:=gn }
   match Bf o ops a with
   | none=>none
   | some false=>some { slot:=lT o (some (.dG [])),upd:=[],vis:=some [],loc:=[],base:=c,next:=c }
   | some true=>
     match o.op with
     | .alloc ty=>match wo P ty with
       | some z=>some { slot:=lT o (some (.p (N0+i) 0)),upd:=[(N0+i,some (.cells z ty true false))],vis:=some [],loc:=[],base:=c,next:=c }
       | none=>none
     | _=>
       match Yk o a.eval with
       | .na l=>
         match lU P call o a.eval { h:=gX h l,next:=qN,lock:=qN } with
         | some (v,τ)=>if Nat.beq τ.next qN then some { slot:=lT o v,upd:=[],vis:=some l,loc:=[],base:=c,next:=c } else none
         | none=>none
       | .wr l=>
         match lU P call o a.eval { h:=gX h l,next:=qN,lock:=lock } with
         | some (v,τ)=>if Nat.beq τ.next qN then some { slot:=lT o v,upd:=(Es h lock l).map λk=>(k,τ.get k),vis:=some l,loc:=[],base:=c,next:=c } else none
         | none=>none
       | .sa l=>
         if FD c t (o.looksAt ops)&&IJ c h l then
          match lU P call o a.eval { h:=gX h l,next:=c,lock:=lock } with
          | some (v,τ)=>some { slot:=lT o v,upd:=((Es h lock l).map λk=>(k,τ.get k))++Cc τ c (τ.next - c),vis:=some l,loc:=[],base:=c,next:=τ.next }
          | none=>none
         else none
       | .ca=>
         match adp (ajc ops M i) (λ_=>lU P call o a.eval { h:=BU h (AO M i prev 0),next:=c,lock:=c }) with
         | some (v,τ)=>some { slot:=lT o v,upd:=Cc τ c (τ.next - c),vis:=none,loc:=JC M i prev 0,base:=c,next:=τ.next }
         | none=>
           if FD c t (o.looksAt ops)&&IJ c h (JU o a.eval h) then
            match lU P call o a.eval { h:=gX h (JU o a.eval h),next:=c,lock:=lock } with
            | some (v,τ)=>some { slot:=lT o v,upd:=((Es h lock (JU o a.eval h)).map λk=>(k,τ.get k))++Cc τ c (τ.next - c),vis:=some (JU o a.eval h),loc:=[],base:=c,next:=τ.next }
            | none=>none
           else none
def Ah (o:Oper):Bool:=match o.op with
 | .move _ | .assign _ | .binOp .. | .extract ..=>true
 | _=>false
def lW (ops:Array Oper) (i:Nat):Bool:=match ops[i]? with | some o=>Ah o | none=>false
def Pv (ops:Array Oper) (M:List Nat):Nat->Nat
 | 0=>0
 | k+1=>if (lW ops k || (List.range k).all λj=>lW ops j || pX M j k)=true then Pv ops M k else k+1
def lZ (ops:Array Oper) (M:List Nat) (i:Nat):Bool:=Nat.ble (Pv ops M ops.size) i&&!(lW ops i)
def rZ:List bM->au->au
 | [],σ=>σ
 | r::rs,σ=>rZ rs (match r.fin with | some τ=>τ | none=>σ)
def FV (P:Program) (call:Caller) (ops:Array Oper) (lock gn n:Nat) (prev:List bM) (i:Nat) (t:Tr AV) (h:Tr bg) (c:Nat):Option bM:=
 match ops[i]? with
 | none=>none
 | some o=>
   match Bf o ops { t:=gX t (o.looksAt ops),n:=n,gn:=gn } with
   | none=>none
   | some false=>some { slot:=lT o (some (.dG [])),upd:=[],vis:=some [],loc:=[],base:=c,next:=c,fin:=some (rZ prev { h:=h,next:=c,lock:=lock }) }
   | some true=>match lU P call o (aU.eval { t:=gX t (o.looksAt ops),n:=n,gn:=gn }) (rZ prev { h:=h,next:=c,lock:=lock }) with
     | some (v,τ)=>some { slot:=lT o v,upd:=[],vis:=some [],loc:=[],base:=c,next:=c,fin:=some τ }
     | none=>none
def uM (P:Program) (call:Caller) (ops:Array Oper) (M:List Nat) (N0 lock gn n:Nat) (prev:List bM) (i:Nat) (t:Tr AV) (h:Tr bg) (c:Nat):Option bM:=
 if lZ ops M i=true then FV P call ops lock gn n prev i t h c else yC P call ops M N0 lock gn n prev i t h c
def Jc (P:Program) (call:Caller) (ops:Array Oper) (M:List Nat) (N0 lock gn n:Nat):Nat->List bM->Nat->Tr AV->Tr bg->Nat->Option (List bM×Tr AV×Tr bg×Nat)
 | 0,prev,_,t,h,c=>some (prev,t,h,c)
 | m+1,prev,i,t,h,c=>
   match uM P call ops M N0 lock gn n prev i t h c with
   | none=>none
   | some r=>Jc P call ops M N0 lock gn n m (prev++[r]) (i+1) (zX r.slot t) (zX r.upd h) r.next
def nY (l m:List Nat):Bool:=l.all λk=>!(m.contains k)
def JM (ops:Array Oper) (N0:Nat) (i j:Nat) (r s:bM):Bool:=
 let keys:=keysOf s.upd
 nY (keysOf r.slot) (keysOf s.slot)&&
 (match ops[i]? with | some o=>nY (o.looksAt ops) (keysOf s.slot) | none=>false)&&
 nY (keysOf r.upd) keys&&
 (match r.vis with
  | some l=>nY l keys
  | none=>Nat.blt j i || (keys.all (Nat.ble N0 ·)&&nY r.loc keys&&Nat.beq s.base s.next))
def acX (ops:Array Oper) (i j:Nat):Bool:=
 match ops[i]?,ops[j]? with
 | some o,some o'=>
   match o'.dst with
   | none=>true
   | some d'=>(match o.dst with | some d=>!(Nat.beq d d') | none=>true)&&!((o.looksAt ops).contains d')
 | _,_=>false
def O4 (ops:Array Oper) (M:List Nat):Bool:=
 (List.range ops.size).all λi=>(List.range ops.size).all λj=>!(uY M i j) || acX ops i j
def MK (N0 i j:Nat) (r s:bM):Bool:=
 nY (keysOf r.upd) (keysOf s.upd)&&
 (match r.vis with
  | some l=>nY l (keysOf s.upd)
  | none=>Nat.blt j i || ((keysOf s.upd).all (Nat.ble N0 ·)&&nY r.loc (keysOf s.upd)&&Nat.beq s.base s.next))
def MJ (M:List Nat) (N0:Nat) (rs:List bM):Bool:=
 rs.zipIdx.all λ(s,j)=>(s.upd.isEmpty&&Nat.beq s.base s.next) || rs.zipIdx.all λ(r,i)=>!(uY M i j) || MK N0 i j r s
theorem YF (l:List Nat):nY l []=true:=by
 unfold nY;simp
theorem abD {ops:Array Oper} {M:List Nat} {N0:Nat} {rs:List bM} (hst:O4 ops M=true) (hdy:MJ M N0 rs=true) (Ju:∀ (i:Nat) r,rs[i]? = some r->∃o v,ops[i]? = some o/\r.slot=lT o v) :
 ∀ (i j:Nat) r s,rs[i]? = some r->rs[j]? = some s->uY M i j=true->JM ops N0 i j r s=true:=by
 intro i j r s hr hs hu;obtain ⟨o,v,ho,hrs⟩:=Ju i r hr;obtain ⟨o',v',ho',hss⟩:=Ju j s hs;have hil:i < ops.size:=(oL.1 ho).1;have hjl:j < ops.size:=(oL.1 ho').1;unfold O4 at hst;rw [List.all_eq_true] at hst;have h1:=hst i (by simpa using hil);rw [List.all_eq_true] at h1;have h2:=h1 j (by simpa using hjl);rw [hu] at h2;simp only [PY,xJ,acX,ho,ho'] at h2;have h3:MK N0 i j r s=true:=by
  unfold MJ at hdy;rw [List.all_eq_true] at hdy;have h4:=hdy (s,j) (by rw [Xf];simpa using hs);simp only [mg,aJ] at h4;rcases h4 with ⟨h5,h6⟩ | h4
  ·have h7:s.upd=[]:=by simpa using h5
   unfold MK;rw [h7];simp only [keysOf,vF,YF,WT,h6,Bool.and_self,Bool.or_true];cases r.vis<;>rfl
  ·rw [List.all_eq_true] at h4
   have h5:=h4 (r,i) (by rw [Xf];simpa using hr);simp only [hu,PY,xJ] at h5;exact h5
 unfold MK at h3;rw [aJ] at h3;unfold JM;rw [ho];simp only [hrs,hss,h3.1,h3.2,KF];unfold lT;cases hd':o'.dst with
 | none=>simp [keysOf,YF]
 | some d'=>
   rw [hd'] at h2;simp only [aJ] at h2;rw [aJ];constructor
   ·cases hd:o.dst with
    | none=>simp [keysOf,nY]
    | some d=>
      rw [hd] at h2;have:=h2.1;simp only [keysOf,jy,vF,nY,vC,WT,KF,xK] at this ⊢;rw [List.contains_cons];simp only [List.contains_nil,Bh];cases hb:d==d' with
      | false=>rfl
      | true=>
        have e:=eq_of_beq hb;subst e;simp at this
   ·have:=h2.2
    simp only [keysOf,jy,vF,nY,List.all_eq_true,xK] at this ⊢;intro k hk;rw [List.contains_cons];simp only [List.contains_nil,Bh];cases hb:k==d' with
    | false=>rfl
    | true=>
      have e:=eq_of_beq hb;subst e;rw [WU.2 hk] at this;cases this
def OZ (n:Nat) (rs:List bM):Bool:=rs.all λr=>Nat.ble r.base r.next&&r.slot.all λp=>Nat.blt p.1 n
def Qo (P:Program) (call:Caller) (ops:Array Oper) (a:aU) (σ:au):Option (aU×au):=
 let M:=jZ ops.toList []
 let N0:=σ.next
 if Gx M 0&&Nat.ble σ.lock σ.next then
  match Jc P call ops M N0 σ.lock a.gn a.n ops.size [] 0 a.t σ.h (N0+ops.size) with
  | some (rs,t,h,c)=>
    if O4 ops M&&MJ M N0 rs&&OZ a.n rs&&Nat.ble c qN then
     some ({ a with t:=t },rZ rs { h:=h,next:=c,lock:=σ.lock })
    else none
  | none=>none
 else none
def Ti (o:Oper):Bool:=match o.op with
 | .move _ | .assign _ | .nilCheck _ | .fieldAddr ..=>true
 | _=>false
def NT (P:Program) (t:TypeId):Bool:=match P.underlying t with
 | some (.map kt _)=>match P.underlying kt with
   | some .string=>true
   | _=>false
 | _=>false
def JB (c:Nat) (slot:List (Nat×Option AV)):bM:={ slot:=slot,upd:=[],vis:=some [],loc:=[],base:=c,next:=c }
def NV (P:Program) (call:Caller) (ops:Array Oper) (M:List Nat) (N0 gn n i:Nat) (t:Tr AV):Option (bM×Option (List UInt8×AV)):=
 match ops[i]? with
 | none=>none
 | some o=>
   match o.guard with
   | some _=>none
   | none=>
     if Nat.beq i 0=true then match o.op with
      | .makeMap _ none=>some (JB (N0+1) (lT o (some (.mp N0))),none)
      | _=>none
     else match o.op with
      | .insert ty m k v=>match aU.eval { t:=gX t (o.looksAt ops),n:=n,gn:=gn } m,aU.eval { t:=gX t (o.looksAt ops),n:=n,gn:=gn } k,aU.eval { t:=gX t (o.looksAt ops),n:=n,gn:=gn } v with
        | some (.mp id),some (.s s),some u=>if (Nat.beq id N0&&NT P ty&&pX M 0 i)=true then some (JB (N0+1) (lT o none),some (s,u)) else none
        | _,_,_=>none
      | _=>if Ti o=true then match lU P call o (aU.eval { t:=gX t (o.looksAt ops),n:=n,gn:=gn }) { h:=.nil,next:=N0,lock:=N0 } with
         | some (v,_)=>some (JB (N0+1) (lT o v),none)
         | none=>none
        else none
def NR (P:Program) (call:Caller) (ops:Array Oper) (M:List Nat) (N0 gn n:Nat):Nat->Nat->Tr AV->Option (List (bM×Option (List UInt8×AV))×Tr AV)
 | 0,_,t=>some ([],t)
 | m+1,i,t=>match NV P call ops M N0 gn n i t with
   | none=>none
   | some r=>match NR P call ops M N0 gn n m (i+1) (zX r.1.slot t) with
     | none=>none
     | some (l,t')=>some (r::l,t')
def jh:List (Option (List UInt8×AV))->Nat->(Nat->Bool)->List (List UInt8×AV)
 | [],_,_=>[]
 | none::l,k,D=>jh l (k+1) D
 | some e::l,k,D=>if D k=true then e::jh l (k+1) D else jh l (k+1) D
def Oi:List (List UInt8)->Bool
 | []=>true
 | s::l=>!(l.any λx=>x==s)&&Oi l
def isLit (ops:Array Oper):Bool:=match ops[0]? with
 | some o=>match o.op with
   | .makeMap _ none=>true
   | _=>false
 | none=>false
def Tf (P:Program) (call:Caller) (ops:Array Oper) (a:aU) (σ:au):Option (aU×au):=
 if isLit ops=true then
  let M:=jZ ops.toList []
  if (Gx M 0&&Nat.ble σ.lock σ.next)=true then
   match NR P call ops M σ.next a.gn a.n ops.size 0 a.t with
   | some (l,t)=>
     if (O4 ops M&&OZ a.n (l.map (·.1))&&Oi ((l.filterMap (·.2)).map (·.1)))=true then
      some ({ a with t:=t },σ.new (.pmap (l.filterMap (·.2))))
     else none
   | none=>none
  else none
 else none
def La (P:Program) (call:Caller) (ops:Array Oper) (a:aU) (σ:au):Option (aU×au):=
 match Tf P call ops a σ with
 | some r=>some r
 | none=>Qo P call ops a σ
end
end Go.aK
namespace Go.aK
set_option linter.unusedSimpArgs false
noncomputable section
variable [aH]
set_option linter.unusedSectionVars false
set_option linter.unusedVariables false
theorem uQ {a b:Nat} (h:a≠b):Nat.beq a b=false:=by
 cases e:Nat.beq a b with
 | false=>rfl
 | true=>exact absurd (bn e) h
section
variable {α:Type}
def dO:List (Nat×Option α)->Nat->Option (Option α)
 | [],_=>none
 | (k,v)::l,b=>match dO l b with
   | some x=>some x
   | none=>if b=k then some v else none
theorem Rx:∀ (l:List (Nat×Option α)) (t:Tr α) (b:Nat),(zX l t).get b=(dO l b).getD (t.get b)
 | [],t,b=>rfl
 | (k,v)::l,t,b=>by
   rw [zX,Rx l,dO];cases dO l b with
   | some x=>rfl
   | none=>
     simp only [uF,Tr.tH];split<;>rfl
theorem vT:∀ (l:List (Nat×Option α)) (b:Nat),dO l b≠none↔b∈keysOf l
 | [],b=>by simp [dO,keysOf]
 | (k,v)::l,b=>by
   have ih:=vT l b;simp only [keysOf,jy,dR] at ih ⊢;rw [dO];cases h:dO l b with
   | some x=>rw [h] at ih;simp only [ne_eq,reduceCtorEq,not_false_eq_true,true_iff] at ih;simp [ih]
   | none=>
     rw [h] at ih;simp only [ne_eq,not_true_eq_false,false_iff] at ih;simp only [ih,or_false];split<;>simp_all
theorem JD {l:List (Nat×Option α)} {b:Nat} (h:b∉keysOf l):dO l b=none:=by
 cases h':dO l b with
 | none=>rfl
 | some x=>exact absurd ((vT l b).1 (by rw [h'];simp)) h
def jY:List (List (Nat×Option α))->Nat->(Nat->Bool)->Nat->Option (Option α)
 | [],_,_,_=>none
 | u::us,k,D,b=>match jY us (k+1) D b with
   | some x=>some x
   | none=>if D k=true then dO u b else none
def iE:List (List (Nat×Option α))->Nat->(Nat->Bool)->Tr α->Tr α
 | [],_,_,t=>t
 | u::us,k,D,t=>iE us (k+1) D (if D k=true then zX u t else t)
theorem Ak:∀ (us:List (List (Nat×Option α))) (k:Nat) (D:Nat->Bool) (t:Tr α) (b:Nat),(iE us k D t).get b=(jY us k D b).getD (t.get b)
 | [],_,_,_,_=>rfl
 | u::us,k,D,t,b=>by
   rw [iE,Ak us,jY];cases jY us (k+1) D b with
   | some x=>rfl
   | none=>
     simp only [uF];split
     ·rw [Rx]
     ·rfl
def gB:List (List (Nat×Option α))->Tr α->Tr α
 | [],t=>t
 | u::us,t=>gB us (zX u t)
theorem Gu:∀ (us:List (List (Nat×Option α))) (k:Nat) (D E:Nat->Bool) (b:Nat),(∀ (j:Nat) u,us[j]? = some u->D (k+j)≠E (k+j)->dO u b=none)->jY us k D b=jY us k E b
 | [],_,_,_,_,_=>rfl
 | u::us,k,D,E,b,h=>by
   have ih:=Gu us (k+1) D E b (λj v hj hne=>h (j+1) v (by simpa using hj) (by rw [show k+(j+1)=k+1+j by omega];exact hne));have h0:=h 0 u (by simp);rw [jY,jY,ih];cases jY us (k+1) E b with
   | some x=>rfl
   | none=>
     simp only [mJ] at h0;by_cases e:D k=E k
     ·rw [e]
     ·rw [h0 e];simp
theorem ajb (us:List (List (Nat×Option α))) (k:Nat) (D:Nat->Bool) (b:Nat) (h:∀j,j < us.length->D (k+j)=false):jY us k D b=none:=by
 induction us generalizing k with
 | nil=>rfl
 | cons u us ih=>
   rw [jY,ih (k+1) (λj hj=>by rw [show k+1+j=k+(j+1) by omega];exact h (j+1) (by simpa using hj))];have:=h 0 (by simp);simp only [mJ] at this;simp [this]
theorem S9:∀ (us:List (List (Nat×Option α))) (k:Nat) (D:Nat->Bool) (b:Nat) (x:Option α),jY us k D b=some x->∃ (j:Nat) (u:List (Nat×Option α)),us[j]? = some u/\D (k+j)=true/\dO u b=some x
 | [],_,_,_,_,h=>by simp [jY] at h
 | u::us,k,D,b,x,h=>by
   rw [jY] at h;split at h
   ·next y hy=>
    cases h;obtain ⟨j,v,h1,h2,h3⟩:=S9 us (k+1) D b _ hy;exact ⟨j+1,v,by simpa using h1,by rw [show k+(j+1)=k+1+j by omega];exact h2,h3⟩
   ·split at h
    ·next hd=>exact ⟨0,u,by simp,by simpa using hd,h⟩
    ·cases h
theorem Gh:∀ (us:List (List (Nat×Option α))) (i k:Nat) (t:Tr α) (b:Nat),(gB (us.take i) t).get b=(jY us k (λj=>decide (j < k+i)) b).getD (t.get b)
 | [],i,k,t,b=>by simp [gB,jY]
 | u::us,0,k,t,b=>by
   rw [ajb _ _ _ _ (λj _=>by simp)];rfl
 | u::us,i+1,k,t,b=>by
   have ih:=Gh us i (k+1) (zX u t) b;simp only [zL,gB];rw [ih,jY];have:(λj=>decide (j < k+1+i))=λj=>decide (j < k+(i+1)):=by funext j;congr 1;apply propext;omega
   rw [this];cases jY us (k+1) (λj=>decide (j < k+(i+1))) b with
   | some x=>rfl
   | none=>
     simp only [uF];rw [ak (by simp),Rx]
theorem SY:∀ (us:List (List (Nat×Option α))) (k i:Nat) (D:Nat->Bool) (b:Nat) (u:List (Nat×Option α)),us[i]? = some u->D (k+i)=false->
 (∀ (j:Nat) v,us[j]? = some v->i < j->D (k+j)=true->dO u b≠none->dO v b=none)->
 jY us k (λj=>D j || Nat.beq j (k+i)) b=match dO u b with | some x=>some x | none=>jY us k D b
 | [],_,_,_,_,_,h,_,_=>by simp at h
 | v::us,k,0,D,b,u,h,hD,hdis=>by
   simp at h;subst h;have tail:jY us (k+1) (λj=>D j || Nat.beq j (k+0)) b=jY us (k+1) D b:=by
    refine Gu _ _ _ _ _ λj w hj hne=>?_;exfalso;apply hne;have:Nat.beq (k+1+j) (k+0)=false:=uQ (by omega);simp only [this,Bh]
   simp only [jY,tail];simp only [mJ] at hD ⊢;have hb:Nat.beq k k=true:=by simp
   cases hl:dO v b with
   | none=>simp [hb,hD,hl]
   | some x=>
     have:jY us (k+1) D b=none:=by
      cases ht:jY us (k+1) D b with
      | none=>rfl
      | some y=>
        obtain ⟨j,w,h1,h2,h3⟩:=S9 _ _ _ _ _ ht;have:=hdis (j+1) w (by simpa using h1) (by omega) (by rw [show k+(j+1)=k+1+j by omega];exact h2) (by rw [hl];simp);rw [this] at h3;cases h3
     simp [this,hb,hl]
 | v::us,k,i+1,D,b,u,h,hD,hdis=>by
   have ih:=SY us (k+1) i D b u (by simpa using h) (by rw [show k+1+i=k+(i+1) by omega];exact hD) (λj w hj hij wQ=>hdis (j+1) w (by simpa using hj) (by omega) (by rw [show k+(j+1)=k+1+j by omega];exact wQ));have e:(λj=>D j || Nat.beq j (k+1+i))=λj=>D j || Nat.beq j (k+(i+1)):=by funext j;congr 2;omega
   rw [e] at ih;simp only [jY,ih];have hk:Nat.beq k (k+(i+1))=false:=uQ (by omega);cases hl:dO u b with
   | some x=>simp
   | none=>simp [hk]
theorem wP (t:Tr α):∀ (l:List Nat) (b:Nat),(gX t l).get b=if b∈l then t.get b else none
 | [],b=>by simp [gX]
 | k::l,b=>by
   rw [gX,Tr.tH,wP t l];by_cases e:b=k
   ·subst e;simp
   ·simp [e]
theorem ZO:∀ (l:List Nat) (t:Tr α) (b:Nat),(BU t l).get b=if b∈l then none else t.get b
 | [],t,b=>by simp [BU]
 | k::l,t,b=>by
   rw [BU,ZO l,Tr.tH];by_cases e:b=k
   ·subst e;simp
   ·simp [e]
end
theorem TA {get:Nat->Nat} {j:Nat}:∀ {es:List Edge},(wY get es).testBit j=true->∃e∈es,Region.binds .any e=true/\(j=e.on\/(get e.on).testBit j=true)
 | [],h=>by simp [wY] at h
 | e::es,h=>by
   rw [wY] at h;split at h
   ·next hb=>
    rw [KQ,KQ,mg,mg,Nat.testBit_two_pow] at h;rcases h with (h | h) | h
    ·exact ⟨e,by simp,hb,.inl (Ol h).symm⟩
    ·exact ⟨e,by simp,hb,.inr h⟩
    ·obtain ⟨e',h1,h2,h3⟩:=TA h
     exact ⟨e',by simp [h1],h2,h3⟩
   ·obtain ⟨e',h1,h2,h3⟩:=TA h
    exact ⟨e',by simp [h1],h2,h3⟩
theorem aa3:∀ (os:List Oper) (acc:List Nat),(jZ os acc).length=acc.length+os.length/\(∀k,k < acc.length->(jZ os acc)[k]? = acc[k]?)/\
 ∀ (k:Nat) o,os[k]? = some o->(jZ os acc)[acc.length+k]? = some (wY (λj=>((jZ os acc).take (acc.length+k)).getD j 0) o.after.toList)
 | [],acc=>by simp [jZ]
 | o::os,acc=>by
   obtain ⟨h1,h2,h3⟩:=aa3 os (acc++[wY (λk=>acc.getD k 0) o.after.toList]);rw [jZ];simp only [jD,pJ,xR] at h1 h2 h3;refine ⟨by simp only [pJ];omega,λk hk=>?_,λk o' ho=>?_⟩
   ·rw [h2 k (by omega),mF hk]
   ·cases k with
    | zero=>
      simp at ho;subst ho;rw [mJ,h2 acc.length (by omega),sD (dH _)];simp only [xW,iM];congr 2;funext j;by_cases hj:j < acc.length
      ·rw [xQ,xQ,kZ,ak hj,h2 j (by omega),mF hj]
      ·rw [xQ,xQ,kZ,ah hj,Bj (by omega)]
    | succ k=>
      have:=h3 k o' (by simpa using ho);rw [show acc.length+1+k=acc.length+(k+1) by omega] at this;exact this
theorem aa4:∀ (M:List Nat) (k:Nat),Gx M k=true->∀ (j m:Nat),M[j]? = some m->m < 2 ^ (k+j)
 | [],_,_,j,m,h=>by simp at h
 | x::M,k,h,j,m,hj=>by
   simp only [Gx,aJ] at h;cases j with
   | zero=>simp at hj;subst hj;have h':=h.1;rw [iO] at h';simpa using h'
   | succ j=>
     have:=aa4 M (k+1) h.2 j m (by simpa using hj);rw [show k+(j+1)=k+1+j by omega];exact this
end
end Go.aK
namespace Go.aK
set_option linter.unusedSimpArgs false
noncomputable section
variable [aH]
set_option linter.unusedSectionVars false
set_option linter.unusedVariables false
variable {P:Program}
theorem Lp {η:Env} {τ τ':au} {w:World} (h:SR P η τ w) {call:Caller} (hcall:qj P call) {o:Oper} {a:aU} {A:Act} (ht:TR P η a A) {r:Option AV} {K:Act->World->Prop} {Q:Exit->Act->World->Prop}
 (hs:pO P call o a.eval τ=some (r,τ')) (hK:∀x η' w',St P η τ w η' τ' w'->(∀v,r=some v->VR η' v x)->K (A.put o.dst x) w'):o.wp P A w K Q:=by
 cases hc:Ce o.op with
 | true=>
   refine X6 h hcall ht hc hs λv x η' w' hr hst hv=>hK x η' w' hst λu hu=>by rw [hr] at hu;cases hu;exact hv
 | false=>
   obtain ⟨nx,w',η',hrun,hst,hres⟩:=abx h (λx v hv=>Jh h ht x v hv) hc hs;unfold Oper.wp;rw [hrun];cases r with
   | none=>subst hres;exact hK undef η' w' hst (by simp)
   | some v=>
     obtain ⟨x,rfl,hv⟩:=hres;exact hK x η' w' hst (λu hu=>by cases hu;exact hv)
def Env.cut (η:Env) (c:Nat):Env:=⟨λid=>if id < c then η id else none,η.ro,λid=>decide (id < c)&&η.gh id⟩
theorem Env.FU (η:Env) (c:Nat):(η.cut c).le η:=⟨λid q h=>(by
 simp only [Env.cut] at h;split at h
 ·exact h
 ·cases h),λ_ _ h=>h,λ_ h=>(aJ _ _ ▸ h:_/\_).2⟩
theorem Env.Yz {η:Env} {c id:Nat} (h:id < c) (hg:η.gh id=true):(η.cut c).gh id=true:=by simp [Env.cut,h,hg]
mutual
theorem VR.cut {η:Env} {c:Nat}:∀ (a:AV) (v:Value),a.under c=true->VR η a v->VR (η.cut c) a v
 | .b _,_,_,hv=>by simpa only [VR] using hv
 | .i _ _,_,_,hv=>by simpa only [VR] using hv
 | .s _,_,_,hv=>by simpa only [VR] using hv
 | .jk,_,_,hv=>by simpa only [VR] using hv
 | .p id _,_,hu,hv=>by
   simp only [VR] at hv ⊢;obtain ⟨q,hq,e⟩:=hv;simp only [AV.under,iO] at hu;exact ⟨q,by simp only [Env.cut];rw [ak hu];exact hq,e⟩
 | .bf,_,_,hv=>by simpa only [VR] using hv
 | .sl id _ _ _,_,hu,hv=>by
   simp only [VR] at hv ⊢;obtain ⟨q,hq,e⟩:=hv;simp only [AV.under,iO] at hu;exact ⟨q,by simp only [Env.cut];rw [ak hu];exact hq,e⟩
 | .oC,_,_,hv=>by simpa only [VR] using hv
 | .mp id,_,hu,hv=>by
   simp only [VR] at hv ⊢;obtain ⟨q,hq,e⟩:=hv;simp only [AV.under,iO] at hu;exact ⟨q,by simp only [Env.cut];rw [ak hu];exact hq,e⟩
 | .wZ,_,_,hv=>by simpa only [VR] using hv
 | .fn _ fi cs,_,hu,hv=>by
   simp only [VR] at hv ⊢;simp only [AV.under,aJ] at hu;obtain ⟨us,vs,e,h1,h2⟩:=hv;exact ⟨us,vs,e,aA.cut fi us hu.1 h1,aA.cut cs vs hu.2 h2⟩
 | .qE,_,_,hv=>by simpa only [VR] using hv
 | .dM _ a,_,hu,hv=>by simp only [VR] at hv ⊢;simp only [AV.under] at hu;obtain ⟨x,e,h1⟩:=hv;exact ⟨x,e,VR.cut a x hu h1⟩
 | .agg l,_,hu,hv=>by simp only [VR] at hv ⊢;simp only [AV.under] at hu;obtain ⟨x,e,h1⟩:=hv;exact ⟨x,e,aA.cut l x hu h1⟩
 | .dG l,_,hu,hv=>by simp only [VR] at hv ⊢;simp only [AV.under] at hu;obtain ⟨x,e,h1⟩:=hv;exact ⟨x,e,aA.cut l x hu h1⟩
 | .z _ _ _,_,_,hv=>by simpa only [VR] using hv
 | .ro l,_,hu,hv=>by
   simp only [VR] at hv ⊢;simp only [AV.under] at hu;rcases hv with hv | ⟨bl,off,cp,xs,sz,e,hc,h1,h2,h3⟩
   ·exact .inl hv
   right;exact ⟨bl,off,cp,xs,sz,e,hc,aA.cut l xs hu h1,h2,h3⟩
 | .rp a _,_,hu,hv=>by
   simp only [VR] at hv ⊢;simp only [AV.under] at hu;obtain ⟨bl,base,cs,elem,fr,x,h1,h2,h3⟩:=hv;exact ⟨bl,base,cs,elem,fr,x,h1,VR.cut a x hu h2,h3⟩
 | .nd _,_,_,hv=>by simp only [VR] at hv ⊢;exact hv
 | .rx _ _,_,_,hv=>by simp only [VR] at hv ⊢;exact hv
 | .sv id _,_,hu,hv=>by
   simp only [VR] at hv ⊢;simp only [AV.under,iO] at hu;obtain ⟨xs,h1,⟨q,hq,h2⟩ | h2⟩:=hv
   ·exact ⟨xs,h1,.inl ⟨q,by simp only [Env.cut];rw [ak hu];exact hq,h2⟩⟩
   ·exact ⟨xs,h1,.inr ⟨Env.Yz hu h2.1,h2.2⟩⟩
 | .pv id _ _,_,hu,hv=>by
   simp only [VR] at hv ⊢;simp only [AV.under,iO] at hu;obtain ⟨q,k,i,hq,h2⟩:=hv;exact ⟨q,k,i,by simp only [Env.cut];rw [ak hu];exact hq,h2⟩
 | .pd id _,_,hu,hv=>by
   simp only [VR] at hv ⊢;simp only [AV.under,iO] at hu;obtain ⟨xs,p,h1,h2,h3⟩:=hv;exact ⟨xs,p,h1,h2,λhn=>by obtain ⟨q,hq,h4⟩:=h3 hn;exact ⟨q,by simp only [Env.cut];rw [ak hu];exact hq,h4⟩⟩
theorem aA.cut {η:Env} {c:Nat}:∀ (l:List AV) (vs:List Value),AV.nS c l=true->aA η l vs->aA (η.cut c) l vs
 | [],_,_,hv=>by simpa only [aA] using hv
 | a::l,_,hu,hv=>by
   simp only [aA] at hv ⊢;simp only [AV.nS,aJ] at hu;obtain ⟨x,xs,e,h1,h2⟩:=hv;exact ⟨x,xs,e,VR.cut a x hu.1 h1,aA.cut l xs hu.2 h2⟩
end
theorem ado {c:Nat}:∀ {l:List AV} {k:Nat} {a:AV},AV.nS c l=true->l[k]? = some a->a.under c=true
 | [],k,a,_,h=>by simp at h
 | x::l,k,a,hu,h=>by
   simp only [AV.nS,aJ] at hu;cases k with
   | zero=>simp at h;subst h;exact hu.1
   | succ k=>exact ado hu.2 (by simpa using h)
theorem OR.cut {η:Env} {c:Nat} {q:Place} {w:World} {o:bg} (hu:yw c o=true) (h:OR P η q w o):OR P (η.cut c) q w o:=by
 cases o with
 | cells l et rw opn=>
   obtain ⟨cs,elem,fr,h1,r⟩:=h;exact ⟨cs,elem,fr,h1, { r with cell:=λk a hk=>by obtain ⟨x,hx,hv⟩:=r.cell k a hk;exact ⟨x,hx,VR.cut a x (ado hu hk) hv⟩ }⟩
 | iter s pos=>exact h
 | map es=>
   obtain ⟨ms,clock,h1,h2,h3⟩:=h;refine ⟨ms,clock,h1,h2,λk e hk=>?_⟩;obtain ⟨m,hm,ha,hb⟩:=h3 k e hk;simp only [yw,List.all_eq_true,aJ] at hu;have:=hu e (qK hk);exact ⟨m,hm,VR.cut _ _ this.1 ha,VR.cut _ _ this.2 hb⟩
 | iterM m=>
   cases m with
   | none=>exact h
   | some m=>
     obtain ⟨h0,since,last,q',h1,h2⟩:=h;simp only [yw,iO] at hu;exact ⟨h0,since,last,q',by simp only [Env.cut];rw [ak hu];exact h1,h2⟩
 | smap n kk sz=>exact h
 | pmap es=>
   obtain ⟨hn,ms,clock,ms',h1,hp,h2,h3⟩:=h;refine ⟨hn,ms,clock,ms',h1,hp,h2,λk e hk=>?_⟩;obtain ⟨m,hm,ha,hb⟩:=h3 k e hk;simp only [yw,List.all_eq_true] at hu;exact ⟨m,hm,ha,VR.cut _ _ (hu e (qK hk)) hb⟩
 | vec n et f=>
   obtain ⟨xs,cs,elem,fr,ys,h1,h2,h3,h4,h5,h6,r,h8⟩:=h;exact ⟨xs,cs,elem,fr,ys,h1,h2,h3,h4,h5,h6, { r with cell:=λk a hk=>by simp at hk },h8⟩
theorem St.merge {η ηi qh η':Env} {σ σ' τ τ':au} {w w':World} {upd:List (Nat×Option bg)} (hS:SR P η σ w) (Nw:SR P ηi τ w) (hst:St P ηi τ w qh τ' w') (sub:∀id o,τ.get id=some o->σ.get id=some o) (hi:ηi.le η) (hro:ηi.ro=η.ro) (Nz:η'.ro=qh.ro)
 (h1:η.le η') (h2:qh.le η') (hg:∀b,σ'.get b=(dO upd b).getD (σ.get b))
 (hu:∀b o,dO upd b=some (some o)->τ'.get b=some o/\((∃o0,τ.get b=some o0/\o0.own=true)\/(o.own=true/\τ.get b=none)))
 (Hr:∀id o,τ.get id=some o->o.own=true->τ.lock<=id->dO upd id≠none) (hlk:σ.lock<=τ.lock) (Gq:∀b,dO upd b≠none->τ.lock<=b)
 (hnx:∀id q,η' id=some q->id < σ'.next) (hgh:∀id,η'.gh id=true->η' id=none/\id < σ'.next) :
 SR P η' σ' w'/\w.heap.size<=w'.heap.size/\
 (∀bl,bl < w.heap.size->(∀id o q,σ.get id=some o->o.own=true->σ.lock<=id->η id=some q->q.bl≠bl)->w'.heap[bl]? = w.heap[bl]?)/\
 (∀id o q,σ'.get id=some o->o.own=true->σ.lock<=id->η' id=some q->w.heap.size<=q.bl\/∃dn o0 q0,σ.get dn=some o0/\o0.own=true/\σ.lock<=dn/\η dn=some q0/\q0.bl=q.bl)/\
 (∀b,η'.ro b≠none->η.ro b≠none\/w.heap.size<=b\/∃dn o0 q0,σ.get dn=some o0/\o0.own=true/\σ.lock<=dn/\η dn=some q0/\q0.bl=b):=by
 have stays:∀b o q,dO upd b=none->σ.get b=some o->η b=some q->q.bl < w.heap.size->w'.heap[q.bl]? = w.heap[q.bl]?:=by
  intro b o q hb ho hq hlt;refine hst.keep _ hlt ?_;intro id o2 q2 a1 a2 a3 a4;have hne:id≠b:=λe=>Hr id o2 a1 a2 a3 (by rw [e];exact hb);exact hS.sep id o2 b o q2 q (sub _ _ a1) a2 ho hne (hi.pl _ _ a4) hq
 have place:∀b o q,dO upd b=some (some o)->η' b=some q->OR P η' q w' o/\qh b=some q:=by
  intro b o q hb hq';rcases hst.rel.live b o (hu b o hb).1 with ⟨p,hp,hr⟩ | ⟨hgb,_⟩
  ·have:=h2.pl _ _ hp
   rw [hq'] at this;cases this;exact ⟨hr.mono h2,hp⟩
  ·rw [(hgh b (h2.gh b hgb)).1] at hq';cases hq'
 have old:∀id o q,σ.get id=some o->η' id=some q->η id=some q/\OR P η q w o:=by
  intro id o q ho hq';rcases hS.live id o ho with ⟨p,hp,hr⟩ | ⟨hgb,_⟩
  ·have:=h1.pl _ _ hp
   rw [hq'] at this;cases this;exact ⟨hp,hr⟩
  ·rw [(hgh id (h1.gh id hgb)).1] at hq';cases hq'
 have Wn:∀b o q,dO upd b=some (some o)->qh b=some q->(w.heap.size<=q.bl)\/(∃dn o0 q0,τ.get dn=some o0/\o0.own=true/\τ.lock<=dn/\ηi dn=some q0/\q0.bl=q.bl):=by
  intro b o q hb hq;obtain ⟨h4,h5⟩:=hu b o hb;rcases h5 with ⟨o0,h6,h7⟩ | ⟨h6,h7⟩
  ·rcases Nw.live b o0 h6 with ⟨p',hp',_⟩ | ⟨hgb,_⟩
   ·have:=hst.ext.pl _ _ hp'
    rw [hq] at this;cases this;exact .inr ⟨b,o0,q,h6,h7,Gq b (by rw [hb];simp),hp',rfl⟩
   ·rw [(hst.rel.jA b (hst.ext.gh b hgb)).1] at hq;cases hq
  ·rcases hst.own b o q h4 h6 (Gq b (by rw [hb];simp)) hq with h8 | h8
   ·exact .inl h8
   ·exact .inr h8
 have I5:∀id o,σ'.get id=some o->(dO upd id=some (some o))\/(dO upd id=none/\σ.get id=some o):=by
  intro id o ho;rw [hg] at ho;cases hl:dO upd id with
  | none=>rw [hl] at ho;exact .inr ⟨rfl,ho⟩
  | some x=>rw [hl] at ho;simp only [uG] at ho;subst ho;exact .inl rfl
 refine ⟨⟨?_,hnx, ?_,hgh, ?_,λb o hb=>hst.rel.iL b o (by rw [<- Nz];exact hb), ?_,λp hp=>(hS.tabs p hp).mono h1⟩,hst.size, ?_, ?_, ?_⟩
 ·intro g hgg;obtain ⟨sz,es,h5⟩:=hS.mX g hgg;exact ⟨sz,es,h1.pl _ _ h5⟩
 ·intro id o ho
  rcases I5 id o ho with h4 | ⟨h4,h5⟩
  ·exact (hst.rel.live id o (hu id o h4).1).mono h2
  ·exact ((hS.live id o h5).heap (w:=w) λq hq hr=>stays id o q h4 h5 hq hr.lt).mono h1
 ·intro id o id' o' q q' a1 a2 a3 a4 a5 a6
  rcases I5 id o a1 with b1 | ⟨b1,b1'⟩<;>rcases I5 id' o' a3 with b2 | ⟨b2,b2'⟩
  ·obtain ⟨_,c2⟩:=place id o q b1 a5
   obtain ⟨_,c4⟩:=place id' o' q' b2 a6;exact hst.rel.sep id o id' o' _ _ (hu _ _ b1).1 a2 (hu _ _ b2).1 a4 c2 c4
  ·obtain ⟨_,c2⟩:=place id o q b1 a5
   obtain ⟨d1,d2⟩:=old id' o' q' b2' a6;rcases Wn id o q b1 c2 with e | ⟨dn,o0,q0,e1,e2,e3,e4,e5⟩
   ·have:=d2.lt;omega
   ·rw [<- e5]
    exact hS.sep dn o0 id' o' q0 q' (sub _ _ e1) e2 b2' (λe=>Hr dn o0 e1 e2 e3 (by rw [e];exact b2)) (hi.pl _ _ e4) d1
  ·obtain ⟨_,c4⟩:=place id' o' q' b2 a6
   obtain ⟨d1,d2⟩:=old id o q b1' a5;rcases Wn id' o' q' b2 c4 with e | ⟨dn,o0,q0,e1,e2,e3,e4,e5⟩
   ·have:=d2.lt;omega
   ·rw [<- e5]
    exact hS.sep id o dn o0 q q0 b1' a2 (sub _ _ e1) (λe=>Hr dn o0 e1 e2 e3 (by rw [<- e];exact b1)) d1 (hi.pl _ _ e4)
  ·exact hS.sep id o id' o' _ _ b1' a2 b2' a4 (old id o q b1' a5).1 (old id' o' q' b2' a6).1
 ·intro id o q a1 a2 a3
  rcases I5 id o a1 with b1 | ⟨b1,b1'⟩
  ·obtain ⟨_,c2⟩:=place id o q b1 a3
   rw [Nz];exact hst.rel.l7 id o q (hu _ _ b1).1 a2 c2
  ·obtain ⟨d1,d2⟩:=old id o q b1' a3
   cases hr:η'.ro q.bl with
   | none=>rfl
   | some o2=>
     exfalso;rcases hst.pz q.bl (by rw [<- Nz,hr];simp) with e | e | ⟨dn,o0,q0,e1,e2,e3,e4,e5⟩
     ·rw [hro,hS.l7 id o q b1' a2 d1] at e;exact e rfl
     ·have:=d2.lt;omega
     ·exact hS.sep dn o0 id o q0 q (sub _ _ e1) e2 b1' (λe=>Hr dn o0 e1 e2 e3 (by rw [e];exact b1)) (hi.pl _ _ e4) d1 e5
 ·intro bl hbl hno
  exact hst.keep bl hbl λid o q a1 a2 a3 a4=>hno id o q (sub _ _ a1) a2 (jS hlk a3) (hi.pl _ _ a4)
 ·intro id o q a1 a2 a3 a4
  rcases I5 id o a1 with b1 | ⟨b1,b1'⟩
  ·obtain ⟨_,c2⟩:=place id o q b1 a4
   rcases Wn id o q b1 c2 with e | ⟨dn,o0,q0,e1,e2,e3,e4,e5⟩
   ·exact .inl e
   ·exact .inr ⟨dn,o0,q0,sub _ _ e1,e2,jS hlk e3,hi.pl _ _ e4,e5⟩
  ·obtain ⟨d1,_⟩:=old id o q b1' a4
   exact .inr ⟨id,o,q,b1',a2,a3,d1,rfl⟩
 ·intro b hb
  rcases hst.pz b (by rw [<- Nz];exact hb) with e | e | ⟨dn,o0,q0,e1,e2,e3,e4,e5⟩
  ·rw [hro] at e;exact .inl e
  ·exact .inr (.inl e)
  ·exact .inr (.inr ⟨dn,o0,q0,sub _ _ e1,e2,jS hlk e3,hi.pl _ _ e4,e5⟩)
theorem St.then {η0 η η':Env} {σ0 σ σ':au} {w0 w w':World} (h:St P η0 σ0 w0 η σ w) (hle:η.le η') (rel:SR P η' σ' w') (size:w.heap.size<=w'.heap.size)
 (keep:∀bl,bl < w.heap.size->(∀id o q,σ.get id=some o->o.own=true->σ.lock<=id->η id=some q->q.bl≠bl)->w'.heap[bl]? = w.heap[bl]?)
 (own:∀id o q,σ'.get id=some o->o.own=true->σ.lock<=id->η' id=some q->w.heap.size<=q.bl\/∃dn o0 q0,σ.get dn=some o0/\o0.own=true/\σ.lock<=dn/\η dn=some q0/\q0.bl=q.bl)
 (os:w'.os=w.os) (tape:w'.tape=w.tape) (output:w'.output=w.output) (lock:σ'.lock=σ.lock) (next:σ.next<=σ'.next)
 (new:∀id,η'.has id->η.has id\/(σ0.next<=id/\id < σ'.next))
 (pz:∀b,η'.ro b≠none->η.ro b≠none\/w.heap.size<=b\/∃dn o0 q0,σ.get dn=some o0/\o0.own=true/\σ.lock<=dn/\η dn=some q0/\q0.bl=b):St P η0 σ0 w0 η' σ' w':=by
 refine ⟨h.ext.trans hle,rel,jS h.size size, ?_, ?_,os.trans h.os,tape.trans h.tape,output.trans h.output,lock.trans h.lock,jS h.next next, ?_, ?_⟩
 ·intro bl hbl hno
  rw [keep bl (uz hbl h.size) ?_,h.keep bl hbl hno];intro id o q h1 h2 h3 h4;rcases h.own id o q h1 h2 (h.lock ▸ h3) h4 with h5 | ⟨dn,o0,q0,a,b,c,d,e⟩
  ·omega
  ·rw [<- e];exact hno dn o0 q0 a b c d
 ·intro id o q h1 h2 h3 h4
  rcases own id o q h1 h2 (by rw [h.lock];exact h3) h4 with h5 | ⟨dn,o0,q0,a,b,c,d,e⟩
  ·exact .inl (jS h.size h5)
  ·rcases h.own dn o0 q0 a b (h.lock ▸ c) d with h6 | ⟨id1,o1,q1,a1,b1,c1,d1,e1⟩
   ·left;omega
   ·exact .inr ⟨id1,o1,q1,a1,b1,c1,d1,e1.trans e⟩
 ·intro id hq
  rcases new id hq with h1 | h1
  ·rcases h.new id h1 with h3 | ⟨h3,h4⟩
   ·exact .inl h3
   ·exact .inr ⟨h3,uz h4 next⟩
  ·exact .inr h1
 ·intro b hb
  rcases pz b hb with h1 | h1 | ⟨dn,o0,q0,a1,b1,c1,d1,e1⟩
  ·exact h.pz b h1
  ·exact .inr (.inl (jS h.size h1))
  ·rcases h.own dn o0 q0 a1 b1 (h.lock ▸ c1) d1 with h2 | ⟨id2,o2,q2,a2,b2,c2,d2,e2⟩
   ·right;left;omega
   ·exact .inr (.inr ⟨id2,o2,q2,a2,b2,c2,d2,e2.trans e1⟩)
end
end Go.aK
namespace Go.aK
set_option linter.unusedSimpArgs false
noncomputable section
variable [aH]
set_option linter.unusedSectionVars false
set_option linter.unusedVariables false
variable {P:Program}
def iy (rs:List bM):List (List (Nat×Option AV)):=rs.map (·.slot)
def fB (rs:List bM):List (List (Nat×Option bg)):=rs.map (·.upd)
def iJ:Nat->List bM->Nat->Nat
 | c,_,0=>c
 | c,[],_=>c
 | _,r::rs,k+1=>iJ r.next rs k
theorem YA {call:Caller} {ops:Array Oper} {M:List Nat} {N0 lock gn n:Nat}:∀ (m:Nat) (prev:List bM) (i:Nat) (t:Tr AV) (h:Tr bg) (c:Nat) (rs:List bM) (t':Tr AV) (h':Tr bg) (c':Nat),
 Jc P call ops M N0 lock gn n m prev i t h c=some (rs,t',h',c')->∃new,rs=prev++new/\new.length=m/\t'=gB (iy new) t/\h'=gB (fB new) h/\c'=iJ c new m/\
  ∀ (k:Nat) r,new[k]? = some r->uM P call ops M N0 lock gn n (prev++new.take k) (i+k) (gB ((iy new).take k) t) (gB ((fB new).take k) h) (iJ c new k)=some r
 | 0,prev,i,t,h,c,rs,t',h',c',hs=>by
   simp only [Jc,aQ,jc] at hs;obtain ⟨rfl,rfl,rfl,rfl⟩:=hs;exact ⟨[],by simp,rfl,rfl,rfl,rfl,by simp⟩
 | m+1,prev,i,t,h,c,rs,t',h',c',hs=>by
   unfold Jc at hs;split at hs
   ·cases hs
   ·next r hr=>
    obtain ⟨new,h1,h2,h3,h4,h5,h6⟩:=YA m _ _ _ _ _ _ _ _ _ hs;refine ⟨r::new,by rw [h1];simp,by simp [h2], ?_, ?_, ?_, ?_⟩
    ·rw [h3];rfl
    ·rw [h4];rfl
    ·rw [h5];rfl
    ·intro k s hk
     cases k with
     | zero=>
       simp at hk;subst hk;simpa [gB,iy,fB,iJ] using hr
     | succ k=>
       have:=h6 k s (by simpa using hk);rw [show i+1+k=i+(k+1) by omega] at this;simp only [rE,Ij] at this;simpa [iy,fB,gB,iJ] using this
theorem agf {call:Caller} {ops:Array Oper} {M:List Nat} {N0 lock gn n i c:Nat} {prev:List bM} {t:Tr AV} {h:Tr bg} {r:bM} (hs:yC P call ops M N0 lock gn n prev i t h c=some r):r.base=c:=by
 unfold yC at hs;split at hs
 ·cases hs
 ·simp only at hs
  split at hs
  ·cases hs
  ·cases hs;rfl
  ·split at hs
   ·split at hs
    ·cases hs;rfl
    ·cases hs
   ·split at hs
    ·split at hs
     ·split at hs
      ·cases hs;rfl
      ·cases hs
     ·cases hs
    ·split at hs
     ·split at hs
      ·cases hs;rfl
      ·cases hs
     ·cases hs
    ·split at hs
     ·split at hs
      ·cases hs;rfl
      ·cases hs
     ·cases hs
    ·split at hs
     ·cases hs;rfl
     ·split at hs
      ·split at hs
       ·cases hs;rfl
       ·cases hs
      ·cases hs
theorem agh {call:Caller} {ops:Array Oper} {M:List Nat} {N0 lock gn n i c:Nat} {prev:List bM} {t:Tr AV} {h:Tr bg} {r:bM} (hs:yC P call ops M N0 lock gn n prev i t h c=some r):∃o v,ops[i]? = some o/\r.slot=lT o v:=by
 unfold yC at hs;split at hs
 ·cases hs
 ·next o ho=>
  simp only at hs;split at hs
  ·cases hs
  ·cases hs;exact ⟨o,_,ho,rfl⟩
  ·split at hs
   ·split at hs
    ·cases hs;exact ⟨o,_,ho,rfl⟩
    ·cases hs
   ·split at hs
    ·split at hs
     ·split at hs
      ·cases hs;exact ⟨o,_,ho,rfl⟩
      ·cases hs
     ·cases hs
    ·split at hs
     ·split at hs
      ·cases hs;exact ⟨o,_,ho,rfl⟩
      ·cases hs
     ·cases hs
    ·split at hs
     ·split at hs
      ·cases hs;exact ⟨o,_,ho,rfl⟩
      ·cases hs
     ·cases hs
    ·split at hs
     ·cases hs;exact ⟨o,_,ho,rfl⟩
     ·split at hs
      ·split at hs
       ·cases hs;exact ⟨o,_,ho,rfl⟩
       ·cases hs
      ·cases hs
theorem agj {call:Caller} {ops:Array Oper} {M:List Nat} {N0 lock gn n i c:Nat} {prev:List bM} {t:Tr AV} {h:Tr bg} {r:bM} (hs:yC P call ops M N0 lock gn n prev i t h c=some r):r.fin=none:=by
 unfold yC at hs;split at hs
 ·cases hs
 ·simp only at hs
  split at hs
  ·cases hs
  ·cases hs;rfl
  ·split at hs
   ·split at hs
    ·cases hs;rfl
    ·cases hs
   ·split at hs
    ·split at hs
     ·split at hs
      ·cases hs;rfl
      ·cases hs
     ·cases hs
    ·split at hs
     ·split at hs
      ·cases hs;rfl
      ·cases hs
     ·cases hs
    ·split at hs
     ·split at hs
      ·cases hs;rfl
      ·cases hs
     ·cases hs
    ·split at hs
     ·cases hs;rfl
     ·split at hs
      ·split at hs
       ·cases hs;rfl
       ·cases hs
      ·cases hs
theorem agi {call:Caller} {ops:Array Oper} {M:List Nat} {N0 lock gn n i c:Nat} {prev:List bM} {t:Tr AV} {h:Tr bg} {r:bM} (hs:uM P call ops M N0 lock gn n prev i t h c=some r):r.base=c:=by
 unfold uM at hs;split at hs
 ·unfold FV at hs
  split at hs
  ·cases hs
  ·split at hs
   ·cases hs
   ·cases hs;rfl
   ·split at hs
    ·cases hs;rfl
    ·cases hs
 ·exact agf hs
theorem agk {call:Caller} {ops:Array Oper} {M:List Nat} {N0 lock gn n i c:Nat} {prev:List bM} {t:Tr AV} {h:Tr bg} {r:bM} (hs:uM P call ops M N0 lock gn n prev i t h c=some r):∃o v,ops[i]? = some o/\r.slot=lT o v:=by
 unfold uM at hs;split at hs
 ·unfold FV at hs
  split at hs
  ·cases hs
  ·next o ho=>
   split at hs
   ·cases hs
   ·cases hs;exact ⟨o,_,ho,rfl⟩
   ·split at hs
    ·cases hs;exact ⟨o,_,ho,rfl⟩
    ·cases hs
 ·exact agh hs
structure oM (ops:Array Oper) (M:List Nat) (rs:List bM) (n N0:Nat):Prop where
 hM:M=jZ ops.toList []
 TI:Gx M 0=true
 len:rs.length=ops.size
 pairs:∀ (i j:Nat) r s,rs[i]? = some r->rs[j]? = some s->uY M i j=true->JM ops N0 i j r s=true
 slot:∀ (i:Nat) r,rs[i]? = some r->r.base<=r.next/\∀p∈r.slot,p.1 < n
structure Ctx (P:Program) (call:Caller) (ops:Array Oper) (M:List Nat) (rs:List bM) (a0:aU) (σ0:au) (cf:Nat):Prop extends oM ops M rs a0.n σ0.next where
 one:∀ (i:Nat) r,rs[i]? = some r->uM P call ops M σ0.next σ0.lock a0.gn a0.n (rs.take i) i (gB ((iy rs).take i) a0.t) (gB ((fB rs).take i) σ0.h) (iJ (σ0.next+ops.size) rs i)=some r
 fin:cf=iJ (σ0.next+ops.size) rs ops.size
 big:cf<=qN
 lock:σ0.lock<=σ0.next
section
variable {call:Caller} {ops:Array Oper} {M:List Nat} {rs:List bM} {a0:aU} {σ0:au} {cf nn N0:Nat}
theorem IY:∀ (rs:List bM) (c k:Nat) (r:bM),rs[k]? = some r->iJ c rs (k+1)=r.next
 | [],c,k,r,h=>by simp at h
 | s::rs,c,0,r,h=>by simp at h;subst h;cases rs<;>rfl
 | s::rs,c,k+1,r,h=>by
   show iJ s.next rs (k+1)=r.next
   exact IY rs s.next k r (by simpa using h)
theorem Ctx.base (C:Ctx P call ops M rs a0 σ0 cf) {i:Nat} {r:bM} (h:rs[i]? = some r):r.base=iJ (σ0.next+ops.size) rs i:=agi (C.one i r h)
theorem Ctx.mono (C:Ctx P call ops M rs a0 σ0 cf):∀ (k i:Nat),i+k<=rs.length->iJ (σ0.next+ops.size) rs i<=iJ (σ0.next+ops.size) rs (i+k)
 | 0,i,_=>dH _
 | k+1,i,h=>by
   have ih:=C.mono k i (by omega);have hlt:i+k < rs.length:=by omega
   have hr:rs[i+k]? = some rs[i+k]:=dA hlt;have:=(C.slot _ _ hr).1;rw [C.base hr] at this;rw [show i+(k+1)=(i+k)+1 by omega,IY rs _ _ _ hr];omega
theorem Ctx.lt (C:Ctx P call ops M rs a0 σ0 cf) {i j:Nat} {r s:bM} (hi:rs[i]? = some r) (hj:rs[j]? = some s) (h:i < j):r.next<=s.base:=by
 have hjl:=(dN.1 hj).1;have:=C.mono (j - (i+1)) (i+1) (by omega);rw [IY rs _ _ _ hi,show i+1+(j - (i+1))=j by omega] at this;rw [C.base hj];exact this
theorem Ctx.lo (C:Ctx P call ops M rs a0 σ0 cf) {i:Nat} {r:bM} (hi:rs[i]? = some r):σ0.next+ops.size<=r.base:=by
 have:=C.mono i 0 (by have:=(dN.1 hi).1;omega);rw [C.base hi];simpa [iJ] using this
theorem Ctx.hi (C:Ctx P call ops M rs a0 σ0 cf) {i:Nat} {r:bM} (hi:rs[i]? = some r):r.next<=cf:=by
 have hil:=(dN.1 hi).1;have:=C.mono (ops.size - (i+1)) (i+1) (by have:=C.len;omega);rw [IY rs _ _ _ hi,show i+1+(ops.size - (i+1))=ops.size by have:=C.len;omega] at this;rw [C.fin];exact this
theorem Ctx.QF (C:Ctx P call ops M rs a0 σ0 cf):σ0.next+ops.size<=cf:=by
 have:=C.mono ops.size 0 (by have:=C.len;omega);rw [C.fin];simpa [iJ] using this
theorem oM.mask (C:oM ops M rs nn N0) {i:Nat} {o:Oper} (ho:ops[i]? = some o):M[i]? = some (wY (λj=>(M.take i).getD j 0) o.after.toList)/\M.length=ops.size:=by
 obtain ⟨h1,_,h3⟩:=aa3 ops.toList [];have:=h3 i o (by simpa using ho);simp only [xR,iZ] at this h1;rw [C.hM];exact ⟨this,by simpa using h1⟩
def Closed (ops:Array Oper) (D:Nat->Bool):Prop:=∀i o,D i=true->ops[i]? = some o->∀e∈o.after.toList,Region.binds .any e=true->D e.on=true
theorem oM.nV (C:oM ops M rs nn N0) {D:Nat->Bool} (hD:Closed ops D):∀ (i:Nat) (o:Oper),ops[i]? = some o->(∀e∈o.after.toList,Region.binds .any e=true->D e.on=true)->∀j,pX M j i=true->D j=true:=by
 intro i;induction i using Nat.strongRecOn with
 | _ i ih=>
   intro o ho eU j hj;obtain ⟨hm,hl⟩:=C.mask ho;unfold pX at hj;rw [xQ,hm] at hj;obtain ⟨e,he,hb,h1⟩:=TA hj;have hDe:=eU e he hb;rcases h1 with rfl | h1
   ·exact hDe
   ·rw [xQ,kZ] at h1
    split at h1
    ·next hlt=>
     by_cases hin:e.on < ops.size
     ·have hoe:ops[e.on]? = some ops[e.on]:=by simp [hin]
      refine ih e.on hlt ops[e.on] hoe (λe' he' hb'=>hD e.on _ hDe hoe e' he' hb') j ?_;unfold pX;rw [xQ];exact h1
     ·rw [Bj (by omega)] at h1
      simp at h1
    ·simp at h1
theorem oM.Uc (C:oM ops M rs nn N0) {i j:Nat} (h:pX M j i=true):j < i:=by
 unfold pX at h;rw [xQ] at h;cases hm:M[i]? with
 | none=>rw [hm] at h;simp at h
 | some m=>
   rw [hm] at h;have hlt:=aa4 M 0 C.TI i m hm;simp only [iZ,uG] at hlt h;exact Nat.lt_of_not_le λhle=>by
    have:=Nat.testBit_lt_two_pow (uz hlt (Fa (by omega) hle));rw [this] at h;cases h
theorem oM.open_ (C:oM ops M rs nn N0) {D:Nat->Bool} (hD:Closed ops D) {i j:Nat} {o:Oper} (ho:ops[i]? = some o) (hi:D i=false) (eU:∀e∈o.after.toList,Region.binds .any e=true->D e.on=true)
 (hj:j < ops.size) (hne:D j≠decide (j < i)):uY M i j=true:=by
 have hij:i≠j:=by rintro rfl;rw [hi] at hne;simp at hne
 have h1:pX M j i=false:=by
  cases h:pX M j i with
  | false=>rfl
  | true=>
    have h2:=C.nV hD i o ho eU j h;have h3:=C.Uc h;rw [h2] at hne;simp [h3] at hne
 have h2:pX M i j=false:=by
  cases h:pX M i j with
  | false=>rfl
  | true=>
    have h3:=C.Uc h;have h4:D j=true:=by
     cases wQ:D j with
     | true=>rfl
     | false=>rw [wQ] at hne;simp at hne;omega
    have hoj:ops[j]? = some ops[j]:=by simp [hj]
    have:=C.nV hD j _ hoj (λe he hb=>hD j _ h4 hoj e he hb) i h;rw [this] at hi;cases hi
 unfold uY;rw [uQ hij,h1,h2];rfl
theorem Jf {l m:List Nat} (h:nY l m=true) {b:Nat} (hb:b∈l):b∉m:=by
 unfold nY at h;rw [List.all_eq_true] at h;have:=h b hb;simpa using this
end
end
end Go.aK
