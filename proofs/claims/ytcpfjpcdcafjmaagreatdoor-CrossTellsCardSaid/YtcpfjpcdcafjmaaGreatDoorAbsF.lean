/- Regions whose order Go leaves open: the evaluator goes by the text, and looks whether another order could make a difference. -/
import Derived.Test.YtcpfjpcdcafjmaaGreatDoorAbsE
namespace Go.aN
set_option linter.unusedSimpArgs false
noncomputable section
variable [gq]
set_option linter.unusedSectionVars false
set_option linter.unusedVariables false
def wO (get:Nat->Nat):List Edge->Nat
 | []=>0
 | e::es=>if Region.binds .any e then (2 ^ e.on ||| get e.on) ||| wO get es else wO get es
def jP:List Oper->List Nat->List Nat
 | [],acc=>acc
 | o::os,acc=>jP os (acc++[wO (λk=>acc.getD k 0) o.after.toList])
def pF (M:List Nat) (j i:Nat):Bool:=(M.getD i 0).testBit j
def uQ (M:List Nat) (i j:Nat):Bool:=!(Nat.beq i j)&&!(pF M j i)&&!(pF M i j)
def FW:List Nat->Nat->Bool
 | [],_=>true
 | m::ms,i=>Nat.blt m (2 ^ i)&&FW ms (i+1)
def zA {α:Type}:List (Nat×Option α)->Tr α->Tr α
 | [],t=>t
 | (k,v)::l,t=>zA l (t.set k v)
def gK {α:Type} (t:Tr α):List Nat->Tr α
 | []=>.nil
 | k::l=>(gK t l).set k (t.get k)
def Bj {α:Type} (t:Tr α):List Nat->Tr α
 | []=>t
 | k::l=>Bj (t.set k none) l
mutual
def AV.under (c:Nat):AV->Bool
 | .p id _=>Nat.blt id c
 | .sl id _ _ _=>Nat.blt id c
 | .mp id=>Nat.blt id c
 | .fn _ fi cs=>AV.nD c fi&&AV.nD c cs
 | .ig _ a=>a.under c
 | .agg l=>AV.nD c l
 | .dA l=>AV.nD c l
 | .ro l=>AV.nD c l
 | .rp a _=>a.under c
 | .sv id _=>Nat.blt id c
 | .pv id _ _=>Nat.blt id c
 | .pd id _=>Nat.blt id c
 | _=>true
def AV.nD (c:Nat):List AV->Bool
 | []=>true
 | a::l=>a.under c&&AV.nD c l
end
def yA (c:Nat):bg->Bool
 | .cells l _ _ _=>AV.nD c l
 | .iter _ _=>true
 | .map es=>es.all λe=>e.1.under c&&e.2.under c
 | .iterM (some m)=>Nat.blt m c
 | .iterM none=>true
 | .vec _ _ _=>true
 | .smap _ _ _=>true
 | .pmap es=>es.all λe=>e.2.under c
def Ih (c:Nat) (h:Tr bg):List Nat->Bool
 | []=>true
 | k::l=>Nat.blt k c&&(match h.get k with | some o=>yA c o | none=>true)&&Ih c h l
def EM (c:Nat) (t:Tr AV):List Nat->Bool
 | []=>true
 | k::l=>(match t.get k with | some v=>v.under c | none=>true)&&EM c t l
structure bM where
 slot:List (Nat×Option AV)
 upd:List (Nat×Option bg)
 vis:Option (List Nat)
 loc:List Nat
 base:Nat
 next:Nat
 fin:Option aj:=none
inductive Cls where
 | na (vis:List Nat)
 | wr (w:List Nat)
 | sa (w:List Nat)
 | ca
def ahF:AV->List Nat
 | .p id _=>[id]
 | .sl id _ _ _=>[id]
 | .mp id=>[id]
 | .sv id _=>[id]
 | .pv id _ _=>[id]
 | .pd id _=>[id]
 | _=>[]
def uH (ev:Operand->Option AV) (x:Operand):List Nat:=match ev x with | some a=>ahF a | none=>[]
def Yc (o:Oper) (ev:Operand->Option AV):Cls:=
 match o.op with
 | .load _ a=>.na (uH ev a)
 | .indexAddr _ x _=>.na (uH ev x)
 | .store _ a _=>.wr (uH ev a)
 | .box .. | .buildSlice .. | .makeSlice .. | .makeMap ..=>.sa []
 | .convert _ _ x=>.sa (uH ev x)
 | .slice _ x _ _ _=>.na (uH ev x)
 | .lookup _ m _ _=>.na (uH ev m)
 | .mapUpdate _ m _ _ | .insert _ m _ _=>.wr (uH ev m)
 | .range _ x=>.sa (uH ev x)
 | .next it _=>.wr (uH ev it)
 | .call c=>match c.callee with
   | .builtin .len=>.na (c.args.toList.flatMap (uH ev))
   | .builtin .append | .builtin .copy | .builtin .clear=>.sa (c.args.toList.flatMap (uH ev))
   | .builtin .unsafeSliceData=>.na (c.args.toList.flatMap (uH ev))
   | .builtin .unsafeString=>.wr (c.args.toList.flatMap (uH ev))
   | .builtin _=>.na []
   | _=>.ca
 | _=>.na []
def qG:Nat:=2 ^ 64
def lM (o:Oper) (v:Option AV):List (Nat×Option AV):=match o.dst with | some d=>[(d,v)] | none=>[]
def Bq (τ:aj):Nat->Nat->List (Nat×Option bg)
 | _,0=>[]
 | c,n+1=>(c,match τ.get c with | some o=>if o.own then some o else none | none=>none)::Bq τ (c+1) n
def keysOf {α:Type} (l:List (Nat×Option α)):List Nat:=l.map (·.1)
def zX (M:List Nat) (i:Nat):List bM->Nat->List Nat
 | [],_=>[]
 | r::rs,j=>if uQ M i j then keysOf r.upd++zX M i rs (j+1) else zX M i rs (j+1)
def Jo (M:List Nat) (i:Nat):List bM->Nat->List Nat
 | [],_=>[]
 | r::rs,j=>if uQ M i j then Jo M i rs (j+1) else keysOf r.upd++Jo M i rs (j+1)
def DT (h:Tr bg) (lock:Nat) (l:List Nat):List Nat:=l.filter λk=>Nat.ble lock k&&(match h.get k with | some o=>o.own | none=>false)
mutual
def EK:AV->List Nat
 | .p id _ | .sl id _ _ _ | .mp id | .sv id _ | .pv id _ _ | .pd id _=>[id]
 | .fn _ fs cs=>EL fs++EL cs
 | .ig _ v=>EK v
 | .agg l=>EL l
 | .dA l=>EL l
 | _=>[]
def EL:List AV->List Nat
 | []=>[]
 | a::l=>EK a++EL l
end
def aiN:bg->List Nat
 | .cells l _ _ _=>EL l
 | .map es=>es.flatMap λe=>EK e.1++EK e.2
 | .pmap es=>es.flatMap λe=>EK e.2
 | .iterM (some m)=>[m]
 | _=>[]
def UW (h:Tr bg):Nat->List Nat->List Nat->List Nat
 | 0,_,seen=>seen
 | _+1,[],seen=>seen
 | f+1,k::todo,seen=>bif seen.contains k then UW h f todo seen else UW h f ((match h.get k with | some o=>aiN o | none=>[])++todo) (k::seen)
def JF (o:Oper) (ev:Operand->Option AV) (h:Tr bg):List Nat:=
 UW h 1000 (o.op.operands.toList.flatMap λx=>match ev x with | some v=>EK v | none=>[]) []
def aiA (ops:Array Oper) (j:Nat):Bool:=match ops[j]? with
 | some o=>match o.op with
   | .buildSlice .. | .makeSlice .. | .makeMap ..=>true
   | _=>false
 | none=>false
def ahX (ops:Array Oper) (M:List Nat) (i:Nat):Bool:=(List.range ops.size).any λj=>Nat.blt i j&&aiA ops j&&uQ M i j
def ac4 {α:Type} (b:Bool) (x:Unit->Option α):Option α:=bif b then none else x ()
theorem an0 {α:Type} {b:Bool} {x:Unit->Option α} {y:α} (h:ac4 b x=some y):x ()=some y:=by
 cases b with
 | true=>cases h
 | false=>exact h
def yD (P:Program) (call:Caller) (ops:Array Oper) (M:List Nat) (N0 lock gn n:Nat) (prev:List bM) (i:Nat) (t:Tr AV) (h:Tr bg) (c:Nat):Option bM:=
 match ops[i]? with
 | none=>none
 | some o=>
   let a:aX:={ t:=gK t (o.looksAt ops),n:=n,gn:=gn }
   match Ak o ops a with
   | none=>none
   | some false=>some { slot:=lM o (some (.dA [])),upd:=[],vis:=some [],loc:=[],base:=c,next:=c }
   | some true=>
     match o.op with
     | .alloc ty=>match vV P ty with
       | some z=>some { slot:=lM o (some (.p (N0+i) 0)),upd:=[(N0+i,some (.cells z ty true false))],vis:=some [],loc:=[],base:=c,next:=c }
       | none=>none
     | _=>
       match Yc o a.eval with
       | .na l=>
         match lN P call o a.eval { h:=gK h l,next:=qG,lock:=qG } with
         | some (v,τ)=>if Nat.beq τ.next qG then some { slot:=lM o v,upd:=[],vis:=some l,loc:=[],base:=c,next:=c } else none
         | none=>none
       | .wr l=>
         match lN P call o a.eval { h:=gK h l,next:=qG,lock:=lock } with
         | some (v,τ)=>if Nat.beq τ.next qG then some { slot:=lM o v,upd:=(DT h lock l).map λk=>(k,τ.get k),vis:=some l,loc:=[],base:=c,next:=c } else none
         | none=>none
       | .sa l=>
         if EM c t (o.looksAt ops)&&Ih c h l then
          match lN P call o a.eval { h:=gK h l,next:=c,lock:=lock } with
          | some (v,τ)=>some { slot:=lM o v,upd:=((DT h lock l).map λk=>(k,τ.get k))++Bq τ c (τ.next - c),vis:=some l,loc:=[],base:=c,next:=τ.next }
          | none=>none
         else none
       | .ca=>
         match ac4 (ahX ops M i) (λ_=>lN P call o a.eval { h:=Bj h (zX M i prev 0),next:=c,lock:=c }) with
         | some (v,τ)=>some { slot:=lM o v,upd:=Bq τ c (τ.next - c),vis:=none,loc:=Jo M i prev 0,base:=c,next:=τ.next }
         | none=>
           if EM c t (o.looksAt ops)&&Ih c h (JF o a.eval h) then
            match lN P call o a.eval { h:=gK h (JF o a.eval h),next:=c,lock:=lock } with
            | some (v,τ)=>some { slot:=lM o v,upd:=((DT h lock (JF o a.eval h)).map λk=>(k,τ.get k))++Bq τ c (τ.next - c),vis:=some (JF o a.eval h),loc:=[],base:=c,next:=τ.next }
            | none=>none
           else none
def zH (o:Oper):Bool:=match o.op with
 | .move _ | .assign _ | .binOp .. | .extract ..=>true
 | _=>false
def lQ (ops:Array Oper) (i:Nat):Bool:=match ops[i]? with | some o=>zH o | none=>false
def O9 (ops:Array Oper) (M:List Nat):Nat->Nat
 | 0=>0
 | k+1=>if (lQ ops k || (List.range k).all λj=>lQ ops j || pF M j k)=true then O9 ops M k else k+1
def lT (ops:Array Oper) (M:List Nat) (i:Nat):Bool:=Nat.ble (O9 ops M ops.size) i&&!(lQ ops i)
def rP:List bM->aj->aj
 | [],σ=>σ
 | r::rs,σ=>rP rs (match r.fin with | some τ=>τ | none=>σ)
def EX (P:Program) (call:Caller) (ops:Array Oper) (lock gn n:Nat) (prev:List bM) (i:Nat) (t:Tr AV) (h:Tr bg) (c:Nat):Option bM:=
 match ops[i]? with
 | none=>none
 | some o=>
   match Ak o ops { t:=gK t (o.looksAt ops),n:=n,gn:=gn } with
   | none=>none
   | some false=>some { slot:=lM o (some (.dA [])),upd:=[],vis:=some [],loc:=[],base:=c,next:=c,fin:=some (rP prev { h:=h,next:=c,lock:=lock }) }
   | some true=>match lN P call o (aX.eval { t:=gK t (o.looksAt ops),n:=n,gn:=gn }) (rP prev { h:=h,next:=c,lock:=lock }) with
     | some (v,τ)=>some { slot:=lM o v,upd:=[],vis:=some [],loc:=[],base:=c,next:=c,fin:=some τ }
     | none=>none
def uD (P:Program) (call:Caller) (ops:Array Oper) (M:List Nat) (N0 lock gn n:Nat) (prev:List bM) (i:Nat) (t:Tr AV) (h:Tr bg) (c:Nat):Option bM:=
 if lT ops M i=true then EX P call ops lock gn n prev i t h c else yD P call ops M N0 lock gn n prev i t h c
def IQ (P:Program) (call:Caller) (ops:Array Oper) (M:List Nat) (N0 lock gn n:Nat):Nat->List bM->Nat->Tr AV->Tr bg->Nat->Option (List bM×Tr AV×Tr bg×Nat)
 | 0,prev,_,t,h,c=>some (prev,t,h,c)
 | m+1,prev,i,t,h,c=>
   match uD P call ops M N0 lock gn n prev i t h c with
   | none=>none
   | some r=>IQ P call ops M N0 lock gn n m (prev++[r]) (i+1) (zA r.slot t) (zA r.upd h) r.next
def nN (l m:List Nat):Bool:=l.all λk=>!(m.contains k)
def JB (ops:Array Oper) (N0:Nat) (i j:Nat) (r s:bM):Bool:=
 let keys:=keysOf s.upd
 nN (keysOf r.slot) (keysOf s.slot)&&
 (match ops[i]? with | some o=>nN (o.looksAt ops) (keysOf s.slot) | none=>false)&&
 nN (keysOf r.upd) keys&&
 (match r.vis with
  | some l=>nN l keys
  | none=>Nat.blt j i || (keys.all (Nat.ble N0 ·)&&nN r.loc keys&&Nat.beq s.base s.next))
def acG (ops:Array Oper) (i j:Nat):Bool:=
 match ops[i]?,ops[j]? with
 | some o,some o'=>
   match o'.dst with
   | none=>true
   | some d'=>(match o.dst with | some d=>!(Nat.beq d d') | none=>true)&&!((o.looksAt ops).contains d')
 | _,_=>false
def OU (ops:Array Oper) (M:List Nat):Bool:=
 (List.range ops.size).all λi=>(List.range ops.size).all λj=>!(uQ M i j) || acG ops i j
def LU (N0 i j:Nat) (r s:bM):Bool:=
 nN (keysOf r.upd) (keysOf s.upd)&&
 (match r.vis with
  | some l=>nN l (keysOf s.upd)
  | none=>Nat.blt j i || ((keysOf s.upd).all (Nat.ble N0 ·)&&nN r.loc (keysOf s.upd)&&Nat.beq s.base s.next))
def LQ (M:List Nat) (N0:Nat) (rs:List bM):Bool:=
 rs.zipIdx.all λ(s,j)=>(s.upd.isEmpty&&Nat.beq s.base s.next) || rs.zipIdx.all λ(r,i)=>!(uQ M i j) || LU N0 i j r s
theorem Yt (l:List Nat):nN l []=true:=by
 unfold nN;simp
theorem aby {ops:Array Oper} {M:List Nat} {N0:Nat} {rs:List bM} (hst:OU ops M=true) (hdy:LQ M N0 rs=true) (Jg:∀ (i:Nat) r,rs[i]? = some r->∃o v,ops[i]? = some o/\r.slot=lM o v) :
 ∀ (i j:Nat) r s,rs[i]? = some r->rs[j]? = some s->uQ M i j=true->JB ops N0 i j r s=true:=by
 intro i j r s hr hs hu;obtain ⟨o,v,ho,hrs⟩:=Jg i r hr;obtain ⟨o',v',ho',hss⟩:=Jg j s hs;have hil:i < ops.size:=(og.1 ho).1;have hjl:j < ops.size:=(og.1 ho').1;unfold OU at hst;rw [List.all_eq_true] at hst;have h1:=hst i (by simpa using hil);rw [List.all_eq_true] at h1;have h2:=h1 j (by simpa using hjl);rw [hu] at h2;simp only [PI,Ar,acG,ho,ho'] at h2;have h3:LU N0 i j r s=true:=by
  unfold LQ at hdy;rw [List.all_eq_true] at hdy;have h4:=hdy (s,j) (by rw [WY];simpa using hs);simp only [lW,aH] at h4;rcases h4 with ⟨h5,h6⟩ | h4
  ·have h7:s.upd=[]:=by simpa using h5
   unfold LU;rw [h7];simp only [keysOf,qA,Yt,WL,h6,Bool.and_self,Bool.or_true];cases r.vis<;>rfl
  ·rw [List.all_eq_true] at h4
   have h5:=h4 (r,i) (by rw [WY];simpa using hr);simp only [hu,PI,Ar] at h5;exact h5
 unfold LU at h3;rw [aH] at h3;unfold JB;rw [ho];simp only [hrs,hss,h3.1,h3.2,G5];unfold lM;cases hd':o'.dst with
 | none=>simp [keysOf,Yt]
 | some d'=>
   rw [hd'] at h2;simp only [aH] at h2;rw [aH];constructor
   ·cases hd:o.dst with
    | none=>simp [keysOf,nN]
    | some d=>
      rw [hd] at h2;have:=h2.1;simp only [keysOf,jV,qA,nN,tY,WL,G5,xQ] at this ⊢;rw [List.contains_cons];simp only [List.contains_nil,Au];cases hb:d==d' with
      | false=>rfl
      | true=>
        have e:=eq_of_beq hb;subst e;simp at this
   ·have:=h2.2
    simp only [keysOf,jV,qA,nN,List.all_eq_true,xQ] at this ⊢;intro k hk;rw [List.contains_cons];simp only [List.contains_nil,Au];cases hb:k==d' with
    | false=>rfl
    | true=>
      have e:=eq_of_beq hb;subst e;rw [WM.2 hk] at this;cases this
def OE (n:Nat) (rs:List bM):Bool:=rs.all λr=>Nat.ble r.base r.next&&r.slot.all λp=>Nat.blt p.1 n
def Qb (P:Program) (call:Caller) (ops:Array Oper) (a:aX) (σ:aj):Option (aX×aj):=
 let M:=jP ops.toList []
 let N0:=σ.next
 if FW M 0&&Nat.ble σ.lock σ.next then
  match IQ P call ops M N0 σ.lock a.gn a.n ops.size [] 0 a.t σ.h (N0+ops.size) with
  | some (rs,t,h,c)=>
    if OU ops M&&LQ M N0 rs&&OE a.n rs&&Nat.ble c qG then
     some ({ a with t:=t },rP rs { h:=h,next:=c,lock:=σ.lock })
    else none
  | none=>none
 else none
def Ti (o:Oper):Bool:=match o.op with
 | .move _ | .assign _ | .nilCheck _ | .fieldAddr ..=>true
 | _=>false
def NC (P:Program) (t:TypeId):Bool:=match P.underlying t with
 | some (.map kt _)=>match P.underlying kt with
   | some .string=>true
   | _=>false
 | _=>false
def Jm (c:Nat) (slot:List (Nat×Option AV)):bM:={ slot:=slot,upd:=[],vis:=some [],loc:=[],base:=c,next:=c }
def NG (P:Program) (call:Caller) (ops:Array Oper) (M:List Nat) (N0 gn n i:Nat) (t:Tr AV):Option (bM×Option (List UInt8×AV)):=
 match ops[i]? with
 | none=>none
 | some o=>
   match o.guard with
   | some _=>none
   | none=>
     if Nat.beq i 0=true then match o.op with
      | .makeMap _ none=>some (Jm (N0+1) (lM o (some (.mp N0))),none)
      | _=>none
     else match o.op with
      | .insert ty m k v=>match aX.eval { t:=gK t (o.looksAt ops),n:=n,gn:=gn } m,aX.eval { t:=gK t (o.looksAt ops),n:=n,gn:=gn } k,aX.eval { t:=gK t (o.looksAt ops),n:=n,gn:=gn } v with
        | some (.mp id),some (.s s),some u=>if (Nat.beq id N0&&NC P ty&&pF M 0 i)=true then some (Jm (N0+1) (lM o none),some (s,u)) else none
        | _,_,_=>none
      | _=>if Ti o=true then match lN P call o (aX.eval { t:=gK t (o.looksAt ops),n:=n,gn:=gn }) { h:=.nil,next:=N0,lock:=N0 } with
         | some (v,_)=>some (Jm (N0+1) (lM o v),none)
         | none=>none
        else none
def Ny (P:Program) (call:Caller) (ops:Array Oper) (M:List Nat) (N0 gn n:Nat):Nat->Nat->Tr AV->Option (List (bM×Option (List UInt8×AV))×Tr AV)
 | 0,_,t=>some ([],t)
 | m+1,i,t=>match NG P call ops M N0 gn n i t with
   | none=>none
   | some r=>match Ny P call ops M N0 gn n m (i+1) (zA r.1.slot t) with
     | none=>none
     | some (l,t')=>some (r::l,t')
def jh:List (Option (List UInt8×AV))->Nat->(Nat->Bool)->List (List UInt8×AV)
 | [],_,_=>[]
 | none::l,k,D=>jh l (k+1) D
 | some e::l,k,D=>if D k=true then e::jh l (k+1) D else jh l (k+1) D
def NZ:List (List UInt8)->Bool
 | []=>true
 | s::l=>!(l.any λx=>x==s)&&NZ l
def isLit (ops:Array Oper):Bool:=match ops[0]? with
 | some o=>match o.op with
   | .makeMap _ none=>true
   | _=>false
 | none=>false
def Tf (P:Program) (call:Caller) (ops:Array Oper) (a:aX) (σ:aj):Option (aX×aj):=
 if isLit ops=true then
  let M:=jP ops.toList []
  if (FW M 0&&Nat.ble σ.lock σ.next)=true then
   match Ny P call ops M σ.next a.gn a.n ops.size 0 a.t with
   | some (l,t)=>
     if (OU ops M&&OE a.n (l.map (·.1))&&NZ ((l.filterMap (·.2)).map (·.1)))=true then
      some ({ a with t:=t },σ.new (.pmap (l.filterMap (·.2))))
     else none
   | none=>none
  else none
 else none
def KH (P:Program) (call:Caller) (ops:Array Oper) (a:aX) (σ:aj):Option (aX×aj):=
 match Tf P call ops a σ with
 | some r=>some r
 | none=>Qb P call ops a σ
end
end Go.aN
namespace Go.aN
set_option linter.unusedSimpArgs false
noncomputable section
variable [aF]
set_option linter.unusedSectionVars false
set_option linter.unusedVariables false
theorem uJ {a b:Nat} (h:a≠b):Nat.beq a b=false:=by
 cases e:Nat.beq a b with
 | false=>rfl
 | true=>exact absurd (bn e) h
section
variable {α:Type}
def dQ:List (Nat×Option α)->Nat->Option (Option α)
 | [],_=>none
 | (k,v)::l,b=>match dQ l b with
   | some x=>some x
   | none=>if b=k then some v else none
theorem Rx:∀ (l:List (Nat×Option α)) (t:Tr α) (b:Nat),(zA l t).get b=(dQ l b).getD (t.get b)
 | [],t,b=>rfl
 | (k,v)::l,t,b=>by
   rw [zA,Rx l,dQ];cases dQ l b with
   | some x=>rfl
   | none=>
     simp only [uh,Tr.sU];split<;>rfl
theorem vM:∀ (l:List (Nat×Option α)) (b:Nat),dQ l b≠none↔b∈keysOf l
 | [],b=>by simp [dQ,keysOf]
 | (k,v)::l,b=>by
   have ih:=vM l b;simp only [keysOf,jV,dP] at ih ⊢;rw [dQ];cases h:dQ l b with
   | some x=>rw [h] at ih;simp only [ne_eq,reduceCtorEq,not_false_eq_true,true_iff] at ih;simp [ih]
   | none=>
     rw [h] at ih;simp only [ne_eq,not_true_eq_false,false_iff] at ih;simp only [ih,or_false];split<;>simp_all
theorem Jp {l:List (Nat×Option α)} {b:Nat} (h:b∉keysOf l):dQ l b=none:=by
 cases h':dQ l b with
 | none=>rfl
 | some x=>exact absurd ((vM l b).1 (by rw [h'];simp)) h
def jO:List (List (Nat×Option α))->Nat->(Nat->Bool)->Nat->Option (Option α)
 | [],_,_,_=>none
 | u::us,k,D,b=>match jO us (k+1) D b with
   | some x=>some x
   | none=>if D k=true then dQ u b else none
def gZ:List (List (Nat×Option α))->Nat->(Nat->Bool)->Tr α->Tr α
 | [],_,_,t=>t
 | u::us,k,D,t=>gZ us (k+1) D (if D k=true then zA u t else t)
theorem zK:∀ (us:List (List (Nat×Option α))) (k:Nat) (D:Nat->Bool) (t:Tr α) (b:Nat),(gZ us k D t).get b=(jO us k D b).getD (t.get b)
 | [],_,_,_,_=>rfl
 | u::us,k,D,t,b=>by
   rw [gZ,zK us,jO];cases jO us (k+1) D b with
   | some x=>rfl
   | none=>
     simp only [uh];split
     ·rw [Rx]
     ·rfl
def gG:List (List (Nat×Option α))->Tr α->Tr α
 | [],t=>t
 | u::us,t=>gG us (zA u t)
theorem FQ:∀ (us:List (List (Nat×Option α))) (k:Nat) (D E:Nat->Bool) (b:Nat),(∀ (j:Nat) u,us[j]? = some u->D (k+j)≠E (k+j)->dQ u b=none)->jO us k D b=jO us k E b
 | [],_,_,_,_,_=>rfl
 | u::us,k,D,E,b,h=>by
   have ih:=FQ us (k+1) D E b (λj v hj hne=>h (j+1) v (by simpa using hj) (by rw [show k+(j+1)=k+1+j by omega];exact hne));have h0:=h 0 u (by simp);rw [jO,jO,ih];cases jO us (k+1) E b with
   | some x=>rfl
   | none=>
     simp only [lZ] at h0;by_cases e:D k=E k
     ·rw [e]
     ·rw [h0 e];simp
theorem ahW (us:List (List (Nat×Option α))) (k:Nat) (D:Nat->Bool) (b:Nat) (h:∀j,j < us.length->D (k+j)=false):jO us k D b=none:=by
 induction us generalizing k with
 | nil=>rfl
 | cons u us ih=>
   rw [jO,ih (k+1) (λj hj=>by rw [show k+1+j=k+(j+1) by omega];exact h (j+1) (by simpa using hj))];have:=h 0 (by simp);simp only [lZ] at this;simp [this]
theorem SX:∀ (us:List (List (Nat×Option α))) (k:Nat) (D:Nat->Bool) (b:Nat) (x:Option α),jO us k D b=some x->∃ (j:Nat) (u:List (Nat×Option α)),us[j]? = some u/\D (k+j)=true/\dQ u b=some x
 | [],_,_,_,_,h=>by simp [jO] at h
 | u::us,k,D,b,x,h=>by
   rw [jO] at h;split at h
   ·next y hy=>
    cases h;obtain ⟨j,v,h1,h2,h3⟩:=SX us (k+1) D b _ hy;exact ⟨j+1,v,by simpa using h1,by rw [show k+(j+1)=k+1+j by omega];exact h2,h3⟩
   ·split at h
    ·next hd=>exact ⟨0,u,by simp,by simpa using hd,h⟩
    ·cases h
theorem Fq:∀ (us:List (List (Nat×Option α))) (i k:Nat) (t:Tr α) (b:Nat),(gG (us.take i) t).get b=(jO us k (λj=>decide (j < k+i)) b).getD (t.get b)
 | [],i,k,t,b=>by simp [gG,jO]
 | u::us,0,k,t,b=>by
   rw [ahW _ _ _ _ (λj _=>by simp)];rfl
 | u::us,i+1,k,t,b=>by
   have ih:=Fq us i (k+1) (zA u t) b;simp only [zh,gG];rw [ih,jO];have:(λj=>decide (j < k+1+i))=λj=>decide (j < k+(i+1)):=by funext j;congr 1;apply propext;omega
   rw [this];cases jO us (k+1) (λj=>decide (j < k+(i+1))) b with
   | some x=>rfl
   | none=>
     simp only [uh];rw [ak (by simp),Rx]
theorem SV:∀ (us:List (List (Nat×Option α))) (k i:Nat) (D:Nat->Bool) (b:Nat) (u:List (Nat×Option α)),us[i]? = some u->D (k+i)=false->
 (∀ (j:Nat) v,us[j]? = some v->i < j->D (k+j)=true->dQ u b≠none->dQ v b=none)->
 jO us k (λj=>D j || Nat.beq j (k+i)) b=match dQ u b with | some x=>some x | none=>jO us k D b
 | [],_,_,_,_,_,h,_,_=>by simp at h
 | v::us,k,0,D,b,u,h,hD,hdis=>by
   simp at h;subst h;have tail:jO us (k+1) (λj=>D j || Nat.beq j (k+0)) b=jO us (k+1) D b:=by
    refine FQ _ _ _ _ _ λj w hj hne=>?_;exfalso;apply hne;have:Nat.beq (k+1+j) (k+0)=false:=uJ (by omega);simp only [this,Au]
   simp only [jO,tail];simp only [lZ] at hD ⊢;have hb:Nat.beq k k=true:=by simp
   cases hl:dQ v b with
   | none=>simp [hb,hD,hl]
   | some x=>
     have:jO us (k+1) D b=none:=by
      cases ht:jO us (k+1) D b with
      | none=>rfl
      | some y=>
        obtain ⟨j,w,h1,h2,h3⟩:=SX _ _ _ _ _ ht;have:=hdis (j+1) w (by simpa using h1) (by omega) (by rw [show k+(j+1)=k+1+j by omega];exact h2) (by rw [hl];simp);rw [this] at h3;cases h3
     simp [this,hb,hl]
 | v::us,k,i+1,D,b,u,h,hD,hdis=>by
   have ih:=SV us (k+1) i D b u (by simpa using h) (by rw [show k+1+i=k+(i+1) by omega];exact hD) (λj w hj hij wI=>hdis (j+1) w (by simpa using hj) (by omega) (by rw [show k+(j+1)=k+1+j by omega];exact wI));have e:(λj=>D j || Nat.beq j (k+1+i))=λj=>D j || Nat.beq j (k+(i+1)):=by funext j;congr 2;omega
   rw [e] at ih;simp only [jO,ih];have hk:Nat.beq k (k+(i+1))=false:=uJ (by omega);cases hl:dQ u b with
   | some x=>simp
   | none=>simp [hk]
theorem wH (t:Tr α):∀ (l:List Nat) (b:Nat),(gK t l).get b=if b∈l then t.get b else none
 | [],b=>by simp [gK]
 | k::l,b=>by
   rw [gK,Tr.sU,wH t l];by_cases e:b=k
   ·subst e;simp
   ·simp [e]
theorem ZI:∀ (l:List Nat) (t:Tr α) (b:Nat),(Bj t l).get b=if b∈l then none else t.get b
 | [],t,b=>by simp [Bj]
 | k::l,t,b=>by
   rw [Bj,ZI l,Tr.sU];by_cases e:b=k
   ·subst e;simp
   ·simp [e]
end
theorem TA {get:Nat->Nat} {j:Nat}:∀ {es:List Edge},(wO get es).testBit j=true->∃e∈es,Region.binds .any e=true/\(j=e.on\/(get e.on).testBit j=true)
 | [],h=>by simp [wO] at h
 | e::es,h=>by
   rw [wO] at h;split at h
   ·next hb=>
    rw [KA,KA,lW,lW,Nat.testBit_two_pow] at h;rcases h with (h | h) | h
    ·exact ⟨e,by simp,hb,.inl (Jv h).symm⟩
    ·exact ⟨e,by simp,hb,.inr h⟩
    ·obtain ⟨e',h1,h2,h3⟩:=TA h
     exact ⟨e',by simp [h1],h2,h3⟩
   ·obtain ⟨e',h1,h2,h3⟩:=TA h
    exact ⟨e',by simp [h1],h2,h3⟩
theorem aa4:∀ (os:List Oper) (acc:List Nat),(jP os acc).length=acc.length+os.length/\(∀k,k < acc.length->(jP os acc)[k]? = acc[k]?)/\
 ∀ (k:Nat) o,os[k]? = some o->(jP os acc)[acc.length+k]? = some (wO (λj=>((jP os acc).take (acc.length+k)).getD j 0) o.after.toList)
 | [],acc=>by simp [jP]
 | o::os,acc=>by
   obtain ⟨h1,h2,h3⟩:=aa4 os (acc++[wO (λk=>acc.getD k 0) o.after.toList]);rw [jP];simp only [iJ,lq,AA] at h1 h2 h3;refine ⟨by simp only [lq];omega,λk hk=>?_,λk o' ho=>?_⟩
   ·rw [h2 k (by omega),lg hk]
   ·cases k with
    | zero=>
      simp at ho;subst ho;rw [lZ,h2 acc.length (by omega),rV (dF _)];simp only [xZ,iH];congr 2;funext j;by_cases hj:j < acc.length
      ·rw [uU,uU,kX,ak hj,h2 j (by omega),lg hj]
      ·rw [uU,uU,kX,ah hj,Aw (by omega)]
    | succ k=>
      have:=h3 k o' (by simpa using ho);rw [show acc.length+1+k=acc.length+(k+1) by omega] at this;exact this
theorem aa5:∀ (M:List Nat) (k:Nat),FW M k=true->∀ (j m:Nat),M[j]? = some m->m < 2 ^ (k+j)
 | [],_,_,j,m,h=>by simp at h
 | x::M,k,h,j,m,hj=>by
   simp only [FW,aH] at h;cases j with
   | zero=>simp at hj;subst hj;have h':=h.1;rw [iK] at h';simpa using h'
   | succ j=>
     have:=aa5 M (k+1) h.2 j m (by simpa using hj);rw [show k+(j+1)=k+1+j by omega];exact this
end
end Go.aN
namespace Go.aN
set_option linter.unusedSimpArgs false
noncomputable section
variable [aF]
set_option linter.unusedSectionVars false
set_option linter.unusedVariables false
variable {P:Program}
theorem KR {η:Env} {τ τ':aj} {w:World} (h:SR P η τ w) {call:Caller} (hcall:pO P call) {o:Oper} {a:aX} {A:Act} (ht:TR P η a A) {r:Option AV} {K:Act->World->Prop} {Q:Exit->Act->World->Prop}
 (hs:oV P call o a.eval τ=some (r,τ')) (hK:∀x η' w',St P η τ w η' τ' w'->(∀v,r=some v->VR η' v x)->K (A.put o.dst x) w'):o.wp P A w K Q:=by
 cases hc:Bv o.op with
 | true=>
   refine XV h hcall ht hc hs λv x η' w' hr hst hv=>hK x η' w' hst λu hu=>by rw [hr] at hu;cases hu;exact hv
 | false=>
   obtain ⟨nx,w',η',hrun,hst,hres⟩:=abr h (λx v hv=>IY h ht x v hv) hc hs;unfold Oper.wp;rw [hrun];cases r with
   | none=>subst hres;exact hK undef η' w' hst (by simp)
   | some v=>
     obtain ⟨x,rfl,hv⟩:=hres;exact hK x η' w' hst (λu hu=>by cases hu;exact hv)
def Env.cut (η:Env) (c:Nat):Env:=⟨λid=>if id < c then η id else none,η.ro,λid=>decide (id < c)&&η.gh id⟩
theorem Env.EW (η:Env) (c:Nat):(η.cut c).le η:=⟨λid q h=>(by
 simp only [Env.cut] at h;split at h
 ·exact h
 ·cases h),λ_ _ h=>h,λ_ h=>(aH _ _ ▸ h:_/\_).2⟩
theorem Env.Yp {η:Env} {c id:Nat} (h:id < c) (hg:η.gh id=true):(η.cut c).gh id=true:=by simp [Env.cut,h,hg]
mutual
theorem VR.cut {η:Env} {c:Nat}:∀ (a:AV) (v:Value),a.under c=true->VR η a v->VR (η.cut c) a v
 | .b _,_,_,hv=>by simpa only [VR] using hv
 | .i _ _,_,_,hv=>by simpa only [VR] using hv
 | .s _,_,_,hv=>by simpa only [VR] using hv
 | .ji,_,_,hv=>by simpa only [VR] using hv
 | .p id _,_,hu,hv=>by
   simp only [VR] at hv ⊢;obtain ⟨q,hq,e⟩:=hv;simp only [AV.under,iK] at hu;exact ⟨q,by simp only [Env.cut];rw [ak hu];exact hq,e⟩
 | .bP,_,_,hv=>by simpa only [VR] using hv
 | .sl id _ _ _,_,hu,hv=>by
   simp only [VR] at hv ⊢;obtain ⟨q,hq,e⟩:=hv;simp only [AV.under,iK] at hu;exact ⟨q,by simp only [Env.cut];rw [ak hu];exact hq,e⟩
 | .nU,_,_,hv=>by simpa only [VR] using hv
 | .mp id,_,hu,hv=>by
   simp only [VR] at hv ⊢;obtain ⟨q,hq,e⟩:=hv;simp only [AV.under,iK] at hu;exact ⟨q,by simp only [Env.cut];rw [ak hu];exact hq,e⟩
 | .wQ,_,_,hv=>by simpa only [VR] using hv
 | .fn _ fi cs,_,hu,hv=>by
   simp only [VR] at hv ⊢;simp only [AV.under,aH] at hu;obtain ⟨us,vs,e,h1,h2⟩:=hv;exact ⟨us,vs,e,au.cut fi us hu.1 h1,au.cut cs vs hu.2 h2⟩
 | .qN,_,_,hv=>by simpa only [VR] using hv
 | .ig _ a,_,hu,hv=>by simp only [VR] at hv ⊢;simp only [AV.under] at hu;obtain ⟨x,e,h1⟩:=hv;exact ⟨x,e,VR.cut a x hu h1⟩
 | .agg l,_,hu,hv=>by simp only [VR] at hv ⊢;simp only [AV.under] at hu;obtain ⟨x,e,h1⟩:=hv;exact ⟨x,e,au.cut l x hu h1⟩
 | .dA l,_,hu,hv=>by simp only [VR] at hv ⊢;simp only [AV.under] at hu;obtain ⟨x,e,h1⟩:=hv;exact ⟨x,e,au.cut l x hu h1⟩
 | .z _ _ _,_,_,hv=>by simpa only [VR] using hv
 | .ro l,_,hu,hv=>by
   simp only [VR] at hv ⊢;simp only [AV.under] at hu;rcases hv with hv | ⟨bl,off,cp,xs,sz,e,hc,h1,h2,h3⟩
   ·exact .inl hv
   right;exact ⟨bl,off,cp,xs,sz,e,hc,au.cut l xs hu h1,h2,h3⟩
 | .rp a _,_,hu,hv=>by
   simp only [VR] at hv ⊢;simp only [AV.under] at hu;obtain ⟨bl,base,cs,elem,fr,x,h1,h2,h3⟩:=hv;exact ⟨bl,base,cs,elem,fr,x,h1,VR.cut a x hu h2,h3⟩
 | .nd _,_,_,hv=>by simp only [VR] at hv ⊢;exact hv
 | .rx _ _,_,_,hv=>by simp only [VR] at hv ⊢;exact hv
 | .sv id _,_,hu,hv=>by
   simp only [VR] at hv ⊢;simp only [AV.under,iK] at hu;obtain ⟨xs,h1,⟨q,hq,h2⟩ | h2⟩:=hv
   ·exact ⟨xs,h1,.inl ⟨q,by simp only [Env.cut];rw [ak hu];exact hq,h2⟩⟩
   ·exact ⟨xs,h1,.inr ⟨Env.Yp hu h2.1,h2.2⟩⟩
 | .pv id _ _,_,hu,hv=>by
   simp only [VR] at hv ⊢;simp only [AV.under,iK] at hu;obtain ⟨q,k,i,hq,h2⟩:=hv;exact ⟨q,k,i,by simp only [Env.cut];rw [ak hu];exact hq,h2⟩
 | .pd id _,_,hu,hv=>by
   simp only [VR] at hv ⊢;simp only [AV.under,iK] at hu;obtain ⟨xs,p,h1,h2,h3⟩:=hv;exact ⟨xs,p,h1,h2,λhn=>by obtain ⟨q,hq,h4⟩:=h3 hn;exact ⟨q,by simp only [Env.cut];rw [ak hu];exact hq,h4⟩⟩
theorem au.cut {η:Env} {c:Nat}:∀ (l:List AV) (vs:List Value),AV.nD c l=true->au η l vs->au (η.cut c) l vs
 | [],_,_,hv=>by simpa only [au] using hv
 | a::l,_,hu,hv=>by
   simp only [au] at hv ⊢;simp only [AV.nD,aH] at hu;obtain ⟨x,xs,e,h1,h2⟩:=hv;exact ⟨x,xs,e,VR.cut a x hu.1 h1,au.cut l xs hu.2 h2⟩
end
theorem ac3 {c:Nat}:∀ {l:List AV} {k:Nat} {a:AV},AV.nD c l=true->l[k]? = some a->a.under c=true
 | [],k,a,_,h=>by simp at h
 | x::l,k,a,hu,h=>by
   simp only [AV.nD,aH] at hu;cases k with
   | zero=>simp at h;subst h;exact hu.1
   | succ k=>exact ac3 hu.2 (by simpa using h)
theorem OR.cut {η:Env} {c:Nat} {q:Place} {w:World} {o:bg} (hu:yA c o=true) (h:OR P η q w o):OR P (η.cut c) q w o:=by
 cases o with
 | cells l et rw opn=>
   obtain ⟨cs,elem,fr,h1,r⟩:=h;exact ⟨cs,elem,fr,h1, { r with cell:=λk a hk=>by obtain ⟨x,hx,hv⟩:=r.cell k a hk;exact ⟨x,hx,VR.cut a x (ac3 hu hk) hv⟩ }⟩
 | iter s pos=>exact h
 | map es=>
   obtain ⟨ms,clock,h1,h2,h3⟩:=h;refine ⟨ms,clock,h1,h2,λk e hk=>?_⟩;obtain ⟨m,hm,ha,hb⟩:=h3 k e hk;simp only [yA,List.all_eq_true,aH] at hu;have:=hu e (qC hk);exact ⟨m,hm,VR.cut _ _ this.1 ha,VR.cut _ _ this.2 hb⟩
 | iterM m=>
   cases m with
   | none=>exact h
   | some m=>
     obtain ⟨h0,since,last,q',h1,h2⟩:=h;simp only [yA,iK] at hu;exact ⟨h0,since,last,q',by simp only [Env.cut];rw [ak hu];exact h1,h2⟩
 | smap n kk sz=>exact h
 | pmap es=>
   obtain ⟨hn,ms,clock,ms',h1,hp,h2,h3⟩:=h;refine ⟨hn,ms,clock,ms',h1,hp,h2,λk e hk=>?_⟩;obtain ⟨m,hm,ha,hb⟩:=h3 k e hk;simp only [yA,List.all_eq_true] at hu;exact ⟨m,hm,ha,VR.cut _ _ (hu e (qC hk)) hb⟩
 | vec n et f=>
   obtain ⟨xs,cs,elem,fr,ys,h1,h2,h3,h4,h5,h6,r,h8⟩:=h;exact ⟨xs,cs,elem,fr,ys,h1,h2,h3,h4,h5,h6, { r with cell:=λk a hk=>by simp at hk },h8⟩
theorem St.merge {η ηi pK η':Env} {σ σ' τ τ':aj} {w w':World} {upd:List (Nat×Option bg)} (hS:SR P η σ w) (Na:SR P ηi τ w) (hst:St P ηi τ w pK τ' w') (sub:∀id o,τ.get id=some o->σ.get id=some o) (hi:ηi.le η) (hro:ηi.ro=η.ro) (Nb:η'.ro=pK.ro)
 (h1:η.le η') (h2:pK.le η') (hg:∀b,σ'.get b=(dQ upd b).getD (σ.get b))
 (hu:∀b o,dQ upd b=some (some o)->τ'.get b=some o/\((∃o0,τ.get b=some o0/\o0.own=true)\/(o.own=true/\τ.get b=none)))
 (Gz:∀id o,τ.get id=some o->o.own=true->τ.lock<=id->dQ upd id≠none) (hlk:σ.lock<=τ.lock) (FM:∀b,dQ upd b≠none->τ.lock<=b)
 (hnx:∀id q,η' id=some q->id < σ'.next) (hgh:∀id,η'.gh id=true->η' id=none/\id < σ'.next) :
 SR P η' σ' w'/\w.heap.size<=w'.heap.size/\
 (∀bl,bl < w.heap.size->(∀id o q,σ.get id=some o->o.own=true->σ.lock<=id->η id=some q->q.bl≠bl)->w'.heap[bl]? = w.heap[bl]?)/\
 (∀id o q,σ'.get id=some o->o.own=true->σ.lock<=id->η' id=some q->w.heap.size<=q.bl\/∃dh o0 q0,σ.get dh=some o0/\o0.own=true/\σ.lock<=dh/\η dh=some q0/\q0.bl=q.bl)/\
 (∀b,η'.ro b≠none->η.ro b≠none\/w.heap.size<=b\/∃dh o0 q0,σ.get dh=some o0/\o0.own=true/\σ.lock<=dh/\η dh=some q0/\q0.bl=b):=by
 have stays:∀b o q,dQ upd b=none->σ.get b=some o->η b=some q->q.bl < w.heap.size->w'.heap[q.bl]? = w.heap[q.bl]?:=by
  intro b o q hb ho hq hlt;refine hst.keep _ hlt ?_;intro id o2 q2 a1 a2 a3 a4;have hne:id≠b:=λe=>Gz id o2 a1 a2 a3 (by rw [e];exact hb);exact hS.sep id o2 b o q2 q (sub _ _ a1) a2 ho hne (hi.pl _ _ a4) hq
 have place:∀b o q,dQ upd b=some (some o)->η' b=some q->OR P η' q w' o/\pK b=some q:=by
  intro b o q hb hq';rcases hst.rel.live b o (hu b o hb).1 with ⟨p,hp,hr⟩ | ⟨hgb,_⟩
  ·have:=h2.pl _ _ hp
   rw [hq'] at this;cases this;exact ⟨hr.mono h2,hp⟩
  ·rw [(hgh b (h2.gh b hgb)).1] at hq';cases hq'
 have old:∀id o q,σ.get id=some o->η' id=some q->η id=some q/\OR P η q w o:=by
  intro id o q ho hq';rcases hS.live id o ho with ⟨p,hp,hr⟩ | ⟨hgb,_⟩
  ·have:=h1.pl _ _ hp
   rw [hq'] at this;cases this;exact ⟨hp,hr⟩
  ·rw [(hgh id (h1.gh id hgb)).1] at hq';cases hq'
 have Ws:∀b o q,dQ upd b=some (some o)->pK b=some q->(w.heap.size<=q.bl)\/(∃dh o0 q0,τ.get dh=some o0/\o0.own=true/\τ.lock<=dh/\ηi dh=some q0/\q0.bl=q.bl):=by
  intro b o q hb hq;obtain ⟨h4,h5⟩:=hu b o hb;rcases h5 with ⟨o0,h6,h7⟩ | ⟨h6,h7⟩
  ·rcases Na.live b o0 h6 with ⟨p',hp',_⟩ | ⟨hgb,_⟩
   ·have:=hst.ext.pl _ _ hp'
    rw [hq] at this;cases this;exact .inr ⟨b,o0,q,h6,h7,FM b (by rw [hb];simp),hp',rfl⟩
   ·rw [(hst.rel.jo b (hst.ext.gh b hgb)).1] at hq;cases hq
  ·rcases hst.own b o q h4 h6 (FM b (by rw [hb];simp)) hq with h8 | h8
   ·exact .inl h8
   ·exact .inr h8
 have Iz:∀id o,σ'.get id=some o->(dQ upd id=some (some o))\/(dQ upd id=none/\σ.get id=some o):=by
  intro id o ho;rw [hg] at ho;cases hl:dQ upd id with
  | none=>rw [hl] at ho;exact .inr ⟨rfl,ho⟩
  | some x=>rw [hl] at ho;simp only [uj] at ho;subst ho;exact .inl rfl
 refine ⟨⟨?_,hnx, ?_,hgh, ?_,λb o hb=>hst.rel.iG b o (by rw [<- Nb];exact hb), ?_,λp hp=>(hS.tabs p hp).mono h1⟩,hst.size, ?_, ?_, ?_⟩
 ·intro g hgg;obtain ⟨sz,es,h5⟩:=hS.mD g hgg;exact ⟨sz,es,h1.pl _ _ h5⟩
 ·intro id o ho
  rcases Iz id o ho with h4 | ⟨h4,h5⟩
  ·exact (hst.rel.live id o (hu id o h4).1).mono h2
  ·exact ((hS.live id o h5).heap (w:=w) λq hq hr=>stays id o q h4 h5 hq hr.lt).mono h1
 ·intro id o id' o' q q' a1 a2 a3 a4 a5 a6
  rcases Iz id o a1 with b1 | ⟨b1,b1'⟩<;>rcases Iz id' o' a3 with b2 | ⟨b2,b2'⟩
  ·obtain ⟨_,c2⟩:=place id o q b1 a5
   obtain ⟨_,c4⟩:=place id' o' q' b2 a6;exact hst.rel.sep id o id' o' _ _ (hu _ _ b1).1 a2 (hu _ _ b2).1 a4 c2 c4
  ·obtain ⟨_,c2⟩:=place id o q b1 a5
   obtain ⟨d1,d2⟩:=old id' o' q' b2' a6;rcases Ws id o q b1 c2 with e | ⟨dh,o0,q0,e1,e2,e3,e4,e5⟩
   ·have:=d2.lt;omega
   ·rw [<- e5]
    exact hS.sep dh o0 id' o' q0 q' (sub _ _ e1) e2 b2' (λe=>Gz dh o0 e1 e2 e3 (by rw [e];exact b2)) (hi.pl _ _ e4) d1
  ·obtain ⟨_,c4⟩:=place id' o' q' b2 a6
   obtain ⟨d1,d2⟩:=old id o q b1' a5;rcases Ws id' o' q' b2 c4 with e | ⟨dh,o0,q0,e1,e2,e3,e4,e5⟩
   ·have:=d2.lt;omega
   ·rw [<- e5]
    exact hS.sep id o dh o0 q q0 b1' a2 (sub _ _ e1) (λe=>Gz dh o0 e1 e2 e3 (by rw [<- e];exact b1)) d1 (hi.pl _ _ e4)
  ·exact hS.sep id o id' o' _ _ b1' a2 b2' a4 (old id o q b1' a5).1 (old id' o' q' b2' a6).1
 ·intro id o q a1 a2 a3
  rcases Iz id o a1 with b1 | ⟨b1,b1'⟩
  ·obtain ⟨_,c2⟩:=place id o q b1 a3
   rw [Nb];exact hst.rel.lU id o q (hu _ _ b1).1 a2 c2
  ·obtain ⟨d1,d2⟩:=old id o q b1' a3
   cases hr:η'.ro q.bl with
   | none=>rfl
   | some o2=>
     exfalso;rcases hst.oM q.bl (by rw [<- Nb,hr];simp) with e | e | ⟨dh,o0,q0,e1,e2,e3,e4,e5⟩
     ·rw [hro,hS.lU id o q b1' a2 d1] at e;exact e rfl
     ·have:=d2.lt;omega
     ·exact hS.sep dh o0 id o q0 q (sub _ _ e1) e2 b1' (λe=>Gz dh o0 e1 e2 e3 (by rw [e];exact b1)) (hi.pl _ _ e4) d1 e5
 ·intro bl hbl hno
  exact hst.keep bl hbl λid o q a1 a2 a3 a4=>hno id o q (sub _ _ a1) a2 (lu hlk a3) (hi.pl _ _ a4)
 ·intro id o q a1 a2 a3 a4
  rcases Iz id o a1 with b1 | ⟨b1,b1'⟩
  ·obtain ⟨_,c2⟩:=place id o q b1 a4
   rcases Ws id o q b1 c2 with e | ⟨dh,o0,q0,e1,e2,e3,e4,e5⟩
   ·exact .inl e
   ·exact .inr ⟨dh,o0,q0,sub _ _ e1,e2,lu hlk e3,hi.pl _ _ e4,e5⟩
  ·obtain ⟨d1,_⟩:=old id o q b1' a4
   exact .inr ⟨id,o,q,b1',a2,a3,d1,rfl⟩
 ·intro b hb
  rcases hst.oM b (by rw [<- Nb];exact hb) with e | e | ⟨dh,o0,q0,e1,e2,e3,e4,e5⟩
  ·rw [hro] at e;exact .inl e
  ·exact .inr (.inl e)
  ·exact .inr (.inr ⟨dh,o0,q0,sub _ _ e1,e2,lu hlk e3,hi.pl _ _ e4,e5⟩)
theorem St.then {η0 η η':Env} {σ0 σ σ':aj} {w0 w w':World} (h:St P η0 σ0 w0 η σ w) (hle:η.le η') (rel:SR P η' σ' w') (size:w.heap.size<=w'.heap.size)
 (keep:∀bl,bl < w.heap.size->(∀id o q,σ.get id=some o->o.own=true->σ.lock<=id->η id=some q->q.bl≠bl)->w'.heap[bl]? = w.heap[bl]?)
 (own:∀id o q,σ'.get id=some o->o.own=true->σ.lock<=id->η' id=some q->w.heap.size<=q.bl\/∃dh o0 q0,σ.get dh=some o0/\o0.own=true/\σ.lock<=dh/\η dh=some q0/\q0.bl=q.bl)
 (os:w'.os=w.os) (tape:w'.tape=w.tape) (output:w'.output=w.output) (lock:σ'.lock=σ.lock) (next:σ.next<=σ'.next)
 (new:∀id,η'.has id->η.has id\/(σ0.next<=id/\id < σ'.next))
 (oM:∀b,η'.ro b≠none->η.ro b≠none\/w.heap.size<=b\/∃dh o0 q0,σ.get dh=some o0/\o0.own=true/\σ.lock<=dh/\η dh=some q0/\q0.bl=b):St P η0 σ0 w0 η' σ' w':=by
 refine ⟨h.ext.trans hle,rel,lu h.size size, ?_, ?_,os.trans h.os,tape.trans h.tape,output.trans h.output,lock.trans h.lock,lu h.next next, ?_, ?_⟩
 ·intro bl hbl hno
  rw [keep bl (tZ hbl h.size) ?_,h.keep bl hbl hno];intro id o q h1 h2 h3 h4;rcases h.own id o q h1 h2 (h.lock ▸ h3) h4 with h5 | ⟨dh,o0,q0,a,b,c,d,e⟩
  ·omega
  ·rw [<- e];exact hno dh o0 q0 a b c d
 ·intro id o q h1 h2 h3 h4
  rcases own id o q h1 h2 (by rw [h.lock];exact h3) h4 with h5 | ⟨dh,o0,q0,a,b,c,d,e⟩
  ·exact .inl (lu h.size h5)
  ·rcases h.own dh o0 q0 a b (h.lock ▸ c) d with h6 | ⟨id1,o1,q1,a1,b1,c1,d1,e1⟩
   ·left;omega
   ·exact .inr ⟨id1,o1,q1,a1,b1,c1,d1,e1.trans e⟩
 ·intro id hq
  rcases new id hq with h1 | h1
  ·rcases h.new id h1 with h3 | ⟨h3,h4⟩
   ·exact .inl h3
   ·exact .inr ⟨h3,tZ h4 next⟩
  ·exact .inr h1
 ·intro b hb
  rcases oM b hb with h1 | h1 | ⟨dh,o0,q0,a1,b1,c1,d1,e1⟩
  ·exact h.oM b h1
  ·exact .inr (.inl (lu h.size h1))
  ·rcases h.own dh o0 q0 a1 b1 (h.lock ▸ c1) d1 with h2 | ⟨id2,o2,q2,a2,b2,c2,d2,e2⟩
   ·right;left;omega
   ·exact .inr (.inr ⟨id2,o2,q2,a2,b2,c2,d2,e2.trans e1⟩)
end
end Go.aN
namespace Go.aN
set_option linter.unusedSimpArgs false
noncomputable section
variable [aF]
set_option linter.unusedSectionVars false
set_option linter.unusedVariables false
variable {P:Program}
def gV (rs:List bM):List (List (Nat×Option AV)):=rs.map (·.slot)
def fB (rs:List bM):List (List (Nat×Option bg)):=rs.map (·.upd)
def iD:Nat->List bM->Nat->Nat
 | c,_,0=>c
 | c,[],_=>c
 | _,r::rs,k+1=>iD r.next rs k
theorem Yq {call:Caller} {ops:Array Oper} {M:List Nat} {N0 lock gn n:Nat}:∀ (m:Nat) (prev:List bM) (i:Nat) (t:Tr AV) (h:Tr bg) (c:Nat) (rs:List bM) (t':Tr AV) (h':Tr bg) (c':Nat),
 IQ P call ops M N0 lock gn n m prev i t h c=some (rs,t',h',c')->∃new,rs=prev++new/\new.length=m/\t'=gG (gV new) t/\h'=gG (fB new) h/\c'=iD c new m/\
  ∀ (k:Nat) r,new[k]? = some r->uD P call ops M N0 lock gn n (prev++new.take k) (i+k) (gG ((gV new).take k) t) (gG ((fB new).take k) h) (iD c new k)=some r
 | 0,prev,i,t,h,c,rs,t',h',c',hs=>by
   simp only [IQ,aT,iY] at hs;obtain ⟨rfl,rfl,rfl,rfl⟩:=hs;exact ⟨[],by simp,rfl,rfl,rfl,rfl,by simp⟩
 | m+1,prev,i,t,h,c,rs,t',h',c',hs=>by
   unfold IQ at hs;split at hs
   ·cases hs
   ·next r hr=>
    obtain ⟨new,h1,h2,h3,h4,h5,h6⟩:=Yq m _ _ _ _ _ _ _ _ _ hs;refine ⟨r::new,by rw [h1];simp,by simp [h2], ?_, ?_, ?_, ?_⟩
    ·rw [h3];rfl
    ·rw [h4];rfl
    ·rw [h5];rfl
    ·intro k s hk
     cases k with
     | zero=>
       simp at hk;subst hk;simpa [gG,gV,fB,iD] using hr
     | succ k=>
       have:=h6 k s (by simpa using hk);rw [show i+1+k=i+(k+1) by omega] at this;simp only [rU,PX] at this;simpa [gV,fB,gG,iD] using this
theorem ae9 {call:Caller} {ops:Array Oper} {M:List Nat} {N0 lock gn n i c:Nat} {prev:List bM} {t:Tr AV} {h:Tr bg} {r:bM} (hs:yD P call ops M N0 lock gn n prev i t h c=some r):r.base=c:=by
 unfold yD at hs;split at hs
 ·cases hs
 ·simp only at hs
  split at hs
  ·cases hs
  ·cases hs;rfl
  ·split at hs
   ·split at hs
    ·cases hs;rfl
    ·cases hs
   ·split at hs
    ·split at hs
     ·split at hs
      ·cases hs;rfl
      ·cases hs
     ·cases hs
    ·split at hs
     ·split at hs
      ·cases hs;rfl
      ·cases hs
     ·cases hs
    ·split at hs
     ·split at hs
      ·cases hs;rfl
      ·cases hs
     ·cases hs
    ·split at hs
     ·cases hs;rfl
     ·split at hs
      ·split at hs
       ·cases hs;rfl
       ·cases hs
      ·cases hs
theorem afa {call:Caller} {ops:Array Oper} {M:List Nat} {N0 lock gn n i c:Nat} {prev:List bM} {t:Tr AV} {h:Tr bg} {r:bM} (hs:yD P call ops M N0 lock gn n prev i t h c=some r):∃o v,ops[i]? = some o/\r.slot=lM o v:=by
 unfold yD at hs;split at hs
 ·cases hs
 ·next o ho=>
  simp only at hs;split at hs
  ·cases hs
  ·cases hs;exact ⟨o,_,ho,rfl⟩
  ·split at hs
   ·split at hs
    ·cases hs;exact ⟨o,_,ho,rfl⟩
    ·cases hs
   ·split at hs
    ·split at hs
     ·split at hs
      ·cases hs;exact ⟨o,_,ho,rfl⟩
      ·cases hs
     ·cases hs
    ·split at hs
     ·split at hs
      ·cases hs;exact ⟨o,_,ho,rfl⟩
      ·cases hs
     ·cases hs
    ·split at hs
     ·split at hs
      ·cases hs;exact ⟨o,_,ho,rfl⟩
      ·cases hs
     ·cases hs
    ·split at hs
     ·cases hs;exact ⟨o,_,ho,rfl⟩
     ·split at hs
      ·split at hs
       ·cases hs;exact ⟨o,_,ho,rfl⟩
       ·cases hs
      ·cases hs
theorem afc {call:Caller} {ops:Array Oper} {M:List Nat} {N0 lock gn n i c:Nat} {prev:List bM} {t:Tr AV} {h:Tr bg} {r:bM} (hs:yD P call ops M N0 lock gn n prev i t h c=some r):r.fin=none:=by
 unfold yD at hs;split at hs
 ·cases hs
 ·simp only at hs
  split at hs
  ·cases hs
  ·cases hs;rfl
  ·split at hs
   ·split at hs
    ·cases hs;rfl
    ·cases hs
   ·split at hs
    ·split at hs
     ·split at hs
      ·cases hs;rfl
      ·cases hs
     ·cases hs
    ·split at hs
     ·split at hs
      ·cases hs;rfl
      ·cases hs
     ·cases hs
    ·split at hs
     ·split at hs
      ·cases hs;rfl
      ·cases hs
     ·cases hs
    ·split at hs
     ·cases hs;rfl
     ·split at hs
      ·split at hs
       ·cases hs;rfl
       ·cases hs
      ·cases hs
theorem afb {call:Caller} {ops:Array Oper} {M:List Nat} {N0 lock gn n i c:Nat} {prev:List bM} {t:Tr AV} {h:Tr bg} {r:bM} (hs:uD P call ops M N0 lock gn n prev i t h c=some r):r.base=c:=by
 unfold uD at hs;split at hs
 ·unfold EX at hs
  split at hs
  ·cases hs
  ·split at hs
   ·cases hs
   ·cases hs;rfl
   ·split at hs
    ·cases hs;rfl
    ·cases hs
 ·exact ae9 hs
theorem afd {call:Caller} {ops:Array Oper} {M:List Nat} {N0 lock gn n i c:Nat} {prev:List bM} {t:Tr AV} {h:Tr bg} {r:bM} (hs:uD P call ops M N0 lock gn n prev i t h c=some r):∃o v,ops[i]? = some o/\r.slot=lM o v:=by
 unfold uD at hs;split at hs
 ·unfold EX at hs
  split at hs
  ·cases hs
  ·next o ho=>
   split at hs
   ·cases hs
   ·cases hs;exact ⟨o,_,ho,rfl⟩
   ·split at hs
    ·cases hs;exact ⟨o,_,ho,rfl⟩
    ·cases hs
 ·exact afa hs
structure oh (ops:Array Oper) (M:List Nat) (rs:List bM) (n N0:Nat):Prop where
 hM:M=jP ops.toList []
 TF:FW M 0=true
 len:rs.length=ops.size
 pairs:∀ (i j:Nat) r s,rs[i]? = some r->rs[j]? = some s->uQ M i j=true->JB ops N0 i j r s=true
 slot:∀ (i:Nat) r,rs[i]? = some r->r.base<=r.next/\∀p∈r.slot,p.1 < n
structure Ctx (P:Program) (call:Caller) (ops:Array Oper) (M:List Nat) (rs:List bM) (a0:aX) (σ0:aj) (cf:Nat):Prop extends oh ops M rs a0.n σ0.next where
 one:∀ (i:Nat) r,rs[i]? = some r->uD P call ops M σ0.next σ0.lock a0.gn a0.n (rs.take i) i (gG ((gV rs).take i) a0.t) (gG ((fB rs).take i) σ0.h) (iD (σ0.next+ops.size) rs i)=some r
 fin:cf=iD (σ0.next+ops.size) rs ops.size
 big:cf<=qG
 lock:σ0.lock<=σ0.next
section
variable {call:Caller} {ops:Array Oper} {M:List Nat} {rs:List bM} {a0:aX} {σ0:aj} {cf nn N0:Nat}
theorem Iu:∀ (rs:List bM) (c k:Nat) (r:bM),rs[k]? = some r->iD c rs (k+1)=r.next
 | [],c,k,r,h=>by simp at h
 | s::rs,c,0,r,h=>by simp at h;subst h;cases rs<;>rfl
 | s::rs,c,k+1,r,h=>by
   show iD s.next rs (k+1)=r.next
   exact Iu rs s.next k r (by simpa using h)
theorem Ctx.base (C:Ctx P call ops M rs a0 σ0 cf) {i:Nat} {r:bM} (h:rs[i]? = some r):r.base=iD (σ0.next+ops.size) rs i:=afb (C.one i r h)
theorem Ctx.mono (C:Ctx P call ops M rs a0 σ0 cf):∀ (k i:Nat),i+k<=rs.length->iD (σ0.next+ops.size) rs i<=iD (σ0.next+ops.size) rs (i+k)
 | 0,i,_=>dF _
 | k+1,i,h=>by
   have ih:=C.mono k i (by omega);have hlt:i+k < rs.length:=by omega
   have hr:rs[i+k]? = some rs[i+k]:=dK hlt;have:=(C.slot _ _ hr).1;rw [C.base hr] at this;rw [show i+(k+1)=(i+k)+1 by omega,Iu rs _ _ _ hr];omega
theorem Ctx.lt (C:Ctx P call ops M rs a0 σ0 cf) {i j:Nat} {r s:bM} (hi:rs[i]? = some r) (hj:rs[j]? = some s) (h:i < j):r.next<=s.base:=by
 have hjl:=(dO.1 hj).1;have:=C.mono (j - (i+1)) (i+1) (by omega);rw [Iu rs _ _ _ hi,show i+1+(j - (i+1))=j by omega] at this;rw [C.base hj];exact this
theorem Ctx.lo (C:Ctx P call ops M rs a0 σ0 cf) {i:Nat} {r:bM} (hi:rs[i]? = some r):σ0.next+ops.size<=r.base:=by
 have:=C.mono i 0 (by have:=(dO.1 hi).1;omega);rw [C.base hi];simpa [iD] using this
theorem Ctx.hi (C:Ctx P call ops M rs a0 σ0 cf) {i:Nat} {r:bM} (hi:rs[i]? = some r):r.next<=cf:=by
 have hil:=(dO.1 hi).1;have:=C.mono (ops.size - (i+1)) (i+1) (by have:=C.len;omega);rw [Iu rs _ _ _ hi,show i+1+(ops.size - (i+1))=ops.size by have:=C.len;omega] at this;rw [C.fin];exact this
theorem Ctx.Qw (C:Ctx P call ops M rs a0 σ0 cf):σ0.next+ops.size<=cf:=by
 have:=C.mono ops.size 0 (by have:=C.len;omega);rw [C.fin];simpa [iD] using this
theorem oh.mask (C:oh ops M rs nn N0) {i:Nat} {o:Oper} (ho:ops[i]? = some o):M[i]? = some (wO (λj=>(M.take i).getD j 0) o.after.toList)/\M.length=ops.size:=by
 obtain ⟨h1,_,h3⟩:=aa4 ops.toList [];have:=h3 i o (by simpa using ho);simp only [AA,iW] at this h1;rw [C.hM];exact ⟨this,by simpa using h1⟩
def Closed (ops:Array Oper) (D:Nat->Bool):Prop:=∀i o,D i=true->ops[i]? = some o->∀e∈o.after.toList,Region.binds .any e=true->D e.on=true
theorem oh.nK (C:oh ops M rs nn N0) {D:Nat->Bool} (hD:Closed ops D):∀ (i:Nat) (o:Oper),ops[i]? = some o->(∀e∈o.after.toList,Region.binds .any e=true->D e.on=true)->∀j,pF M j i=true->D j=true:=by
 intro i;induction i using Nat.strongRecOn with
 | _ i ih=>
   intro o ho dY j hj;obtain ⟨hm,hl⟩:=C.mask ho;unfold pF at hj;rw [uU,hm] at hj;obtain ⟨e,he,hb,h1⟩:=TA hj;have hDe:=dY e he hb;rcases h1 with rfl | h1
   ·exact hDe
   ·rw [uU,kX] at h1
    split at h1
    ·next hlt=>
     by_cases hin:e.on < ops.size
     ·have hoe:ops[e.on]? = some ops[e.on]:=by simp [hin]
      refine ih e.on hlt ops[e.on] hoe (λe' he' hb'=>hD e.on _ hDe hoe e' he' hb') j ?_;unfold pF;rw [uU];exact h1
     ·rw [Aw (by omega)] at h1
      simp at h1
    ·simp at h1
theorem oh.TY (C:oh ops M rs nn N0) {i j:Nat} (h:pF M j i=true):j < i:=by
 unfold pF at h;rw [uU] at h;cases hm:M[i]? with
 | none=>rw [hm] at h;simp at h
 | some m=>
   rw [hm] at h;have hlt:=aa5 M 0 C.TF i m hm;simp only [iW,uj] at hlt h;exact Nat.lt_of_not_le λhle=>by
    have:=Nat.testBit_lt_two_pow (tZ hlt (Ey (by omega) hle));rw [this] at h;cases h
theorem oh.open_ (C:oh ops M rs nn N0) {D:Nat->Bool} (hD:Closed ops D) {i j:Nat} {o:Oper} (ho:ops[i]? = some o) (hi:D i=false) (dY:∀e∈o.after.toList,Region.binds .any e=true->D e.on=true)
 (hj:j < ops.size) (hne:D j≠decide (j < i)):uQ M i j=true:=by
 have hij:i≠j:=by rintro rfl;rw [hi] at hne;simp at hne
 have h1:pF M j i=false:=by
  cases h:pF M j i with
  | false=>rfl
  | true=>
    have h2:=C.nK hD i o ho dY j h;have h3:=C.TY h;rw [h2] at hne;simp [h3] at hne
 have h2:pF M i j=false:=by
  cases h:pF M i j with
  | false=>rfl
  | true=>
    have h3:=C.TY h;have h4:D j=true:=by
     cases wI:D j with
     | true=>rfl
     | false=>rw [wI] at hne;simp at hne;omega
    have hoj:ops[j]? = some ops[j]:=by simp [hj]
    have:=C.nK hD j _ hoj (λe he hb=>hD j _ h4 hoj e he hb) i h;rw [this] at hi;cases hi
 unfold uQ;rw [uJ hij,h1,h2];rfl
theorem IW {l m:List Nat} (h:nN l m=true) {b:Nat} (hb:b∈l):b∉m:=by
 unfold nN at h;rw [List.all_eq_true] at h;have:=h b hb;simpa using this
end
end
end Go.aN
