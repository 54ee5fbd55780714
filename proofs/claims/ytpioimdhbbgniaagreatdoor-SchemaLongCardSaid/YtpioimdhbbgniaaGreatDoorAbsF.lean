/- Regions whose order Go leaves open: the evaluator goes by the text, and looks whether another order could make a difference. -/
import Derived.Test.YtpioimdhbbgniaaGreatDoorAbsE
namespace Go.aJ
set_option linter.unusedSimpArgs false
noncomputable section
variable [fB]
set_option linter.unusedSectionVars false
set_option linter.unusedVariables false
def xk (get:Nat->Nat):List Edge->Nat
 | []=>0
 | e::es=>if Region.binds .any e then (2 ^ e.on ||| get e.on) ||| xk get es else xk get es
def jr:List Oper->List Nat->List Nat
 | [],acc=>acc
 | o::os,acc=>jr os (acc++[xk (λk=>acc.getD k 0) o.after.toList])
def pJ (M:List Nat) (j i:Nat):Bool:=(M.getD i 0).testBit j
def vk (M:List Nat) (i j:Nat):Bool:=!(Nat.beq i j)&&!(pJ M j i)&&!(pJ M i j)
def Gn:List Nat->Nat->Bool
 | [],_=>true
 | m::ms,i=>Nat.blt m (2 ^ i)&&Gn ms (i+1)
def y9 {α:Type}:List (Nat×Option α)->Tr α->Tr α
 | [],t=>t
 | (k,v)::l,t=>y9 l (t.set k v)
def gu {α:Type} (t:Tr α):List Nat->Tr α
 | []=>.nil
 | k::l=>(gu t l).set k (t.get k)
def A8 {α:Type} (t:Tr α):List Nat->Tr α
 | []=>t
 | k::l=>A8 (t.set k none) l
mutual
def AV.under (c:Nat):AV->Bool
 | .p id _=>Nat.blt id c
 | .sl id _ _ _=>Nat.blt id c
 | .mp id=>Nat.blt id c
 | .fn _ fi cs=>AV.nJ c fi&&AV.nJ c cs
 | .dO _ a=>a.under c
 | .agg l=>AV.nJ c l
 | .cO l=>AV.nJ c l
 | .ro l=>AV.nJ c l
 | .rp a _=>a.under c
 | .sv id _=>Nat.blt id c
 | .pv id _ _=>Nat.blt id c
 | .pd id _=>Nat.blt id c
 | _=>true
def AV.nJ (c:Nat):List AV->Bool
 | []=>true
 | a::l=>a.under c&&AV.nJ c l
end
def xW (c:Nat):aZ->Bool
 | .cells l _ _ _=>AV.nJ c l
 | .iter _ _=>true
 | .map es=>es.all λe=>e.1.under c&&e.2.under c
 | .iterM (some m)=>Nat.blt m c
 | .iterM none=>true
 | .vec _ _ _=>true
 | .smap _ _ _=>true
 | .pmap es=>es.all λe=>e.2.under c
def IZ (c:Nat) (h:Tr aZ):List Nat->Bool
 | []=>true
 | k::l=>Nat.blt k c&&(match h.get k with | some o=>xW c o | none=>true)&&IZ c h l
def Fa (c:Nat) (t:Tr AV):List Nat->Bool
 | []=>true
 | k::l=>(match t.get k with | some v=>v.under c | none=>true)&&Fa c t l
structure bJ where
 slot:List (Nat×Option AV)
 upd:List (Nat×Option aZ)
 vis:Option (List Nat)
 loc:List Nat
 base:Nat
 next:Nat
 fin:Option aj:=none
inductive Cls where
 | na (vis:List Nat)
 | wr (w:List Nat)
 | sa (w:List Nat)
 | ca
def ahB:AV->List Nat
 | .p id _=>[id]
 | .sl id _ _ _=>[id]
 | .mp id=>[id]
 | .sv id _=>[id]
 | .pv id _ _=>[id]
 | .pd id _=>[id]
 | _=>[]
def uS (ev:Operand->Option AV) (x:Operand):List Nat:=match ev x with | some a=>ahB a | none=>[]
def Yu (o:Oper) (ev:Operand->Option AV):Cls:=
 match o.op with
 | .load _ a=>.na (uS ev a)
 | .indexAddr _ x _=>.na (uS ev x)
 | .store _ a _=>.wr (uS ev a)
 | .box .. | .buildSlice .. | .makeSlice .. | .makeMap ..=>.sa []
 | .convert _ _ x=>.sa (uS ev x)
 | .slice _ x _ _ _=>.na (uS ev x)
 | .lookup _ m _ _=>.na (uS ev m)
 | .mapUpdate _ m _ _ | .insert _ m _ _=>.wr (uS ev m)
 | .range _ x=>.sa (uS ev x)
 | .next it _=>.wr (uS ev it)
 | .call c=>match c.callee with
   | .builtin .len=>.na (c.args.toList.flatMap (uS ev))
   | .builtin .append | .builtin .copy | .builtin .clear=>.sa (c.args.toList.flatMap (uS ev))
   | .builtin .unsafeSliceData=>.na (c.args.toList.flatMap (uS ev))
   | .builtin .unsafeString=>.wr (c.args.toList.flatMap (uS ev))
   | .builtin _=>.na []
   | _=>.ca
 | _=>.na []
def qI:Nat:=2 ^ 64
def kF (o:Oper) (v:Option AV):List (Nat×Option AV):=match o.dst with | some d=>[(d,v)] | none=>[]
def Bd (τ:aj):Nat->Nat->List (Nat×Option aZ)
 | _,0=>[]
 | c,n+1=>(c,match τ.get c with | some o=>if o.own then some o else none | none=>none)::Bd τ (c+1) n
def keysOf {α:Type} (l:List (Nat×Option α)):List Nat:=l.map (·.1)
def zL (M:List Nat) (i:Nat):List bJ->Nat->List Nat
 | [],_=>[]
 | r::rs,j=>if vk M i j then keysOf r.upd++zL M i rs (j+1) else zL M i rs (j+1)
def JM (M:List Nat) (i:Nat):List bJ->Nat->List Nat
 | [],_=>[]
 | r::rs,j=>if vk M i j then JM M i rs (j+1) else keysOf r.upd++JM M i rs (j+1)
def DX (h:Tr aZ) (lock:Nat) (l:List Nat):List Nat:=l.filter λk=>Nat.ble lock k&&(match h.get k with | some o=>o.own | none=>false)
mutual
def E8:AV->List Nat
 | .p id _ | .sl id _ _ _ | .mp id | .sv id _ | .pv id _ _ | .pd id _=>[id]
 | .fn _ fs cs=>E9 fs++E9 cs
 | .dO _ v=>E8 v
 | .agg l=>E9 l
 | .cO l=>E9 l
 | _=>[]
def E9:List AV->List Nat
 | []=>[]
 | a::l=>E8 a++E9 l
end
def ai8:aZ->List Nat
 | .cells l _ _ _=>E9 l
 | .map es=>es.flatMap λe=>E8 e.1++E8 e.2
 | .pmap es=>es.flatMap λe=>E8 e.2
 | .iterM (some m)=>[m]
 | _=>[]
def Vs (h:Tr aZ):Nat->List Nat->List Nat->List Nat
 | 0,_,seen=>seen
 | _+1,[],seen=>seen
 | f+1,k::todo,seen=>bif seen.contains k then Vs h f todo seen else Vs h f ((match h.get k with | some o=>ai8 o | none=>[])++todo) (k::seen)
def J7 (o:Oper) (ev:Operand->Option AV) (h:Tr aZ):List Nat:=
 Vs h 1000 (o.op.operands.toList.flatMap λx=>match ev x with | some v=>E8 v | none=>[]) []
def aiS (ops:Array Oper) (j:Nat):Bool:=match ops[j]? with
 | some o=>match o.op with
   | .buildSlice .. | .makeSlice .. | .makeMap ..=>true
   | _=>false
 | none=>false
def ahY (ops:Array Oper) (M:List Nat) (i:Nat):Bool:=(List.range ops.size).any λj=>Nat.blt i j&&aiS ops j&&vk M i j
def ac7 {α:Type} (b:Bool) (x:Unit->Option α):Option α:=bif b then none else x ()
theorem aol {α:Type} {b:Bool} {x:Unit->Option α} {y:α} (h:ac7 b x=some y):x ()=some y:=by
 cases b with
 | true=>cases h
 | false=>exact h
def xZ (P:Program) (call:Caller) (ops:Array Oper) (M:List Nat) (N0 lock gn n:Nat) (prev:List bJ) (i:Nat) (t:Tr AV) (h:Tr aZ) (c:Nat):Option bJ:=
 match ops[i]? with
 | none=>none
 | some o=>
   let a:aW:={ t:=gu t (o.looksAt ops),n:=n,gn:=gn }
   match Ac o ops a with
   | none=>none
   | some false=>some { slot:=kF o (some (.cO [])),upd:=[],vis:=some [],loc:=[],base:=c,next:=c }
   | some true=>
     match o.op with
     | .alloc ty=>match wB P ty with
       | some z=>some { slot:=kF o (some (.p (N0+i) 0)),upd:=[(N0+i,some (.cells z ty true false))],vis:=some [],loc:=[],base:=c,next:=c }
       | none=>none
     | _=>
       match Yu o a.eval with
       | .na l=>
         match kG P call o a.eval { h:=gu h l,next:=qI,lock:=qI } with
         | some (v,τ)=>if Nat.beq τ.next qI then some { slot:=kF o v,upd:=[],vis:=some l,loc:=[],base:=c,next:=c } else none
         | none=>none
       | .wr l=>
         match kG P call o a.eval { h:=gu h l,next:=qI,lock:=lock } with
         | some (v,τ)=>if Nat.beq τ.next qI then some { slot:=kF o v,upd:=(DX h lock l).map λk=>(k,τ.get k),vis:=some l,loc:=[],base:=c,next:=c } else none
         | none=>none
       | .sa l=>
         if Fa c t (o.looksAt ops)&&IZ c h l then
          match kG P call o a.eval { h:=gu h l,next:=c,lock:=lock } with
          | some (v,τ)=>some { slot:=kF o v,upd:=((DX h lock l).map λk=>(k,τ.get k))++Bd τ c (τ.next - c),vis:=some l,loc:=[],base:=c,next:=τ.next }
          | none=>none
         else none
       | .ca=>
         match ac7 (ahY ops M i) (λ_=>kG P call o a.eval { h:=A8 h (zL M i prev 0),next:=c,lock:=c }) with
         | some (v,τ)=>some { slot:=kF o v,upd:=Bd τ c (τ.next - c),vis:=none,loc:=JM M i prev 0,base:=c,next:=τ.next }
         | none=>
           if Fa c t (o.looksAt ops)&&IZ c h (J7 o a.eval h) then
            match kG P call o a.eval { h:=gu h (J7 o a.eval h),next:=c,lock:=lock } with
            | some (v,τ)=>some { slot:=kF o v,upd:=((DX h lock (J7 o a.eval h)).map λk=>(k,τ.get k))++Bd τ c (τ.next - c),vis:=some (J7 o a.eval h),loc:=[],base:=c,next:=τ.next }
            | none=>none
           else none
def zq (o:Oper):Bool:=match o.op with
 | .move _ | .assign _ | .binOp .. | .extract ..=>true
 | _=>false
def kH (ops:Array Oper) (i:Nat):Bool:=match ops[i]? with | some o=>zq o | none=>false
def PY (ops:Array Oper) (M:List Nat):Nat->Nat
 | 0=>0
 | k+1=>if (kH ops k || (List.range k).all λj=>kH ops j || pJ M j k)=true then PY ops M k else k+1
def kM (ops:Array Oper) (M:List Nat) (i:Nat):Bool:=Nat.ble (PY ops M ops.size) i&&!(kH ops i)
def sF:List bJ->aj->aj
 | [],σ=>σ
 | r::rs,σ=>sF rs (match r.fin with | some τ=>τ | none=>σ)
def Fq (P:Program) (call:Caller) (ops:Array Oper) (lock gn n:Nat) (prev:List bJ) (i:Nat) (t:Tr AV) (h:Tr aZ) (c:Nat):Option bJ:=
 match ops[i]? with
 | none=>none
 | some o=>
   match Ac o ops { t:=gu t (o.looksAt ops),n:=n,gn:=gn } with
   | none=>none
   | some false=>some { slot:=kF o (some (.cO [])),upd:=[],vis:=some [],loc:=[],base:=c,next:=c,fin:=some (sF prev { h:=h,next:=c,lock:=lock }) }
   | some true=>match kG P call o (aW.eval { t:=gu t (o.looksAt ops),n:=n,gn:=gn }) (sF prev { h:=h,next:=c,lock:=lock }) with
     | some (v,τ)=>some { slot:=kF o v,upd:=[],vis:=some [],loc:=[],base:=c,next:=c,fin:=some τ }
     | none=>none
def uO (P:Program) (call:Caller) (ops:Array Oper) (M:List Nat) (N0 lock gn n:Nat) (prev:List bJ) (i:Nat) (t:Tr AV) (h:Tr aZ) (c:Nat):Option bJ:=
 if kM ops M i=true then Fq P call ops lock gn n prev i t h c else xZ P call ops M N0 lock gn n prev i t h c
def Jj (P:Program) (call:Caller) (ops:Array Oper) (M:List Nat) (N0 lock gn n:Nat):Nat->List bJ->Nat->Tr AV->Tr aZ->Nat->Option (List bJ×Tr AV×Tr aZ×Nat)
 | 0,prev,_,t,h,c=>some (prev,t,h,c)
 | m+1,prev,i,t,h,c=>
   match uO P call ops M N0 lock gn n prev i t h c with
   | none=>none
   | some r=>Jj P call ops M N0 lock gn n m (prev++[r]) (i+1) (y9 r.slot t) (y9 r.upd h) r.next
def nR (l m:List Nat):Bool:=l.all λk=>!(m.contains k)
def J4 (ops:Array Oper) (N0:Nat) (i j:Nat) (r s:bJ):Bool:=
 let keys:=keysOf s.upd
 nR (keysOf r.slot) (keysOf s.slot)&&
 (match ops[i]? with | some o=>nR (o.looksAt ops) (keysOf s.slot) | none=>false)&&
 nR (keysOf r.upd) keys&&
 (match r.vis with
  | some l=>nR l keys
  | none=>Nat.blt j i || (keys.all (Nat.ble N0 ·)&&nR r.loc keys&&Nat.beq s.base s.next))
def acI (ops:Array Oper) (i j:Nat):Bool:=
 match ops[i]?,ops[j]? with
 | some o,some o'=>
   match o'.dst with
   | none=>true
   | some d'=>(match o.dst with | some d=>!(Nat.beq d d') | none=>true)&&!((o.looksAt ops).contains d')
 | _,_=>false
def Pv (ops:Array Oper) (M:List Nat):Bool:=
 (List.range ops.size).all λi=>(List.range ops.size).all λj=>!(vk M i j) || acI ops i j
def Na (N0 i j:Nat) (r s:bJ):Bool:=
 nR (keysOf r.upd) (keysOf s.upd)&&
 (match r.vis with
  | some l=>nR l (keysOf s.upd)
  | none=>Nat.blt j i || ((keysOf s.upd).all (Nat.ble N0 ·)&&nR r.loc (keysOf s.upd)&&Nat.beq s.base s.next))
def MZ (M:List Nat) (N0:Nat) (rs:List bJ):Bool:=
 rs.zipIdx.all λ(s,j)=>(s.upd.isEmpty&&Nat.beq s.base s.next) || rs.zipIdx.all λ(r,i)=>!(vk M i j) || Na N0 i j r s
theorem YR (l:List Nat):nR l []=true:=by
 unfold nR;simp
theorem abM {ops:Array Oper} {M:List Nat} {N0:Nat} {rs:List bJ} (hst:Pv ops M=true) (hdy:MZ M N0 rs=true) (JC:∀ (i:Nat) r,rs[i]? = some r->∃o v,ops[i]? = some o/\r.slot=kF o v) :
 ∀ (i j:Nat) r s,rs[i]? = some r->rs[j]? = some s->vk M i j=true->J4 ops N0 i j r s=true:=by
 intro i j r s hr hs hu;obtain ⟨o,v,ho,hrs⟩:=JC i r hr;obtain ⟨o',v',ho',hss⟩:=JC j s hs;have hil:i < ops.size:=(oh.1 ho).1;have hjl:j < ops.size:=(oh.1 ho').1;unfold Pv at hst;rw [List.all_eq_true] at hst;have h1:=hst i (by simpa using hil);rw [List.all_eq_true] at h1;have h2:=h1 j (by simpa using hjl);rw [hu] at h2;simp only [Qp,wE,acI,ho,ho'] at h2;have h3:Na N0 i j r s=true:=by
  unfold MZ at hdy;rw [List.all_eq_true] at hdy;have h4:=hdy (s,j) (by rw [Xn];simpa using hs);simp only [kR,aG] at h4;rcases h4 with ⟨h5,h6⟩ | h4
  ·have h7:s.upd=[]:=by simpa using h5
   unfold Na;rw [h7];simp only [keysOf,Ai,YR,Xa,h6,Bool.and_self,Bool.or_true];cases r.vis<;>rfl
  ·rw [List.all_eq_true] at h4
   have h5:=h4 (r,i) (by rw [Xn];simpa using hr);simp only [hu,Qp,wE] at h5;exact h5
 unfold Na at h3;rw [aG] at h3;unfold J4;rw [ho];simp only [hrs,hss,h3.1,h3.2,Qn];unfold kF;cases hd':o'.dst with
 | none=>simp [keysOf,YR]
 | some d'=>
   rw [hd'] at h2;simp only [aG] at h2;rw [aG];constructor
   ·cases hd:o.dst with
    | none=>simp [keysOf,nR]
    | some d=>
      rw [hd] at h2;have:=h2.1;simp only [keysOf,iy,Ai,nR,uw,Xa,Qn,vC] at this ⊢;rw [List.contains_cons];simp only [List.contains_nil,yQ];cases hb:d==d' with
      | false=>rfl
      | true=>
        have e:=eq_of_beq hb;subst e;simp at this
   ·have:=h2.2
    simp only [keysOf,iy,Ai,nR,List.all_eq_true,vC] at this ⊢;intro k hk;rw [List.contains_cons];simp only [List.contains_nil,yQ];cases hb:k==d' with
    | false=>rfl
    | true=>
      have e:=eq_of_beq hb;subst e;rw [Xb.2 hk] at this;cases this
def Ph (n:Nat) (rs:List bJ):Bool:=rs.all λr=>Nat.ble r.base r.next&&r.slot.all λp=>Nat.blt p.1 n
def QK (P:Program) (call:Caller) (ops:Array Oper) (a:aW) (σ:aj):Option (aW×aj):=
 let M:=jr ops.toList []
 let N0:=σ.next
 if Gn M 0&&Nat.ble σ.lock σ.next then
  match Jj P call ops M N0 σ.lock a.gn a.n ops.size [] 0 a.t σ.h (N0+ops.size) with
  | some (rs,t,h,c)=>
    if Pv ops M&&MZ M N0 rs&&Ph a.n rs&&Nat.ble c qI then
     some ({ a with t:=t },sF rs { h:=h,next:=c,lock:=σ.lock })
    else none
  | none=>none
 else none
def TV (o:Oper):Bool:=match o.op with
 | .move _ | .assign _ | .nilCheck _ | .fieldAddr ..=>true
 | _=>false
def Oq (P:Program) (t:TypeId):Bool:=match P.underlying t with
 | some (.map kt _)=>match P.underlying kt with
   | some .string=>true
   | _=>false
 | _=>false
def JL (c:Nat) (slot:List (Nat×Option AV)):bJ:={ slot:=slot,upd:=[],vis:=some [],loc:=[],base:=c,next:=c }
def Ou (P:Program) (call:Caller) (ops:Array Oper) (M:List Nat) (N0 gn n i:Nat) (t:Tr AV):Option (bJ×Option (List UInt8×AV)):=
 match ops[i]? with
 | none=>none
 | some o=>
   match o.guard with
   | some _=>none
   | none=>
     if Nat.beq i 0=true then match o.op with
      | .makeMap _ none=>some (JL (N0+1) (kF o (some (.mp N0))),none)
      | _=>none
     else match o.op with
      | .insert ty m k v=>match aW.eval { t:=gu t (o.looksAt ops),n:=n,gn:=gn } m,aW.eval { t:=gu t (o.looksAt ops),n:=n,gn:=gn } k,aW.eval { t:=gu t (o.looksAt ops),n:=n,gn:=gn } v with
        | some (.mp id),some (.s s),some u=>if (Nat.beq id N0&&Oq P ty&&pJ M 0 i)=true then some (JL (N0+1) (kF o none),some (s,u)) else none
        | _,_,_=>none
      | _=>if TV o=true then match kG P call o (aW.eval { t:=gu t (o.looksAt ops),n:=n,gn:=gn }) { h:=.nil,next:=N0,lock:=N0 } with
         | some (v,_)=>some (JL (N0+1) (kF o v),none)
         | none=>none
        else none
def Om (P:Program) (call:Caller) (ops:Array Oper) (M:List Nat) (N0 gn n:Nat):Nat->Nat->Tr AV->Option (List (bJ×Option (List UInt8×AV))×Tr AV)
 | 0,_,t=>some ([],t)
 | m+1,i,t=>match Ou P call ops M N0 gn n i t with
   | none=>none
   | some r=>match Om P call ops M N0 gn n m (i+1) (y9 r.1.slot t) with
     | none=>none
     | some (l,t')=>some (r::l,t')
def iL:List (Option (List UInt8×AV))->Nat->(Nat->Bool)->List (List UInt8×AV)
 | [],_,_=>[]
 | none::l,k,D=>iL l (k+1) D
 | some e::l,k,D=>if D k=true then e::iL l (k+1) D else iL l (k+1) D
def OL:List (List UInt8)->Bool
 | []=>true
 | s::l=>!(l.any λx=>x==s)&&OL l
def isLit (ops:Array Oper):Bool:=match ops[0]? with
 | some o=>match o.op with
   | .makeMap _ none=>true
   | _=>false
 | none=>false
def TU (P:Program) (call:Caller) (ops:Array Oper) (a:aW) (σ:aj):Option (aW×aj):=
 if isLit ops=true then
  let M:=jr ops.toList []
  if (Gn M 0&&Nat.ble σ.lock σ.next)=true then
   match Om P call ops M σ.next a.gn a.n ops.size 0 a.t with
   | some (l,t)=>
     if (Pv ops M&&Ph a.n (l.map (·.1))&&OL ((l.filterMap (·.2)).map (·.1)))=true then
      some ({ a with t:=t },σ.new (.pmap (l.filterMap (·.2))))
     else none
   | none=>none
  else none
 else none
def Lp (P:Program) (call:Caller) (ops:Array Oper) (a:aW) (σ:aj):Option (aW×aj):=
 match TU P call ops a σ with
 | some r=>some r
 | none=>QK P call ops a σ
end
end Go.aJ
namespace Go.aJ
set_option linter.unusedSimpArgs false
noncomputable section
variable [aC]
set_option linter.unusedSectionVars false
set_option linter.unusedVariables false
theorem uT {a b:Nat} (h:a≠b):Nat.beq a b=false:=by
 cases e:Nat.beq a b with
 | false=>rfl
 | true=>exact absurd (bn e) h
section
variable {α:Type}
def dV:List (Nat×Option α)->Nat->Option (Option α)
 | [],_=>none
 | (k,v)::l,b=>match dV l b with
   | some x=>some x
   | none=>if b=k then some v else none
theorem RZ:∀ (l:List (Nat×Option α)) (t:Tr α) (b:Nat),(y9 l t).get b=(dV l b).getD (t.get b)
 | [],t,b=>rfl
 | (k,v)::l,t,b=>by
   rw [y9,RZ l,dV];cases dV l b with
   | some x=>rfl
   | none=>
     simp only [sN,Tr.tJ];split<;>rfl
theorem vV:∀ (l:List (Nat×Option α)) (b:Nat),dV l b≠none↔b∈keysOf l
 | [],b=>by simp [dV,keysOf]
 | (k,v)::l,b=>by
   have ih:=vV l b;simp only [keysOf,iy,dn] at ih ⊢;rw [dV];cases h:dV l b with
   | some x=>rw [h] at ih;simp only [ne_eq,reduceCtorEq,not_false_eq_true,true_iff] at ih;simp [ih]
   | none=>
     rw [h] at ih;simp only [ne_eq,not_true_eq_false,false_iff] at ih;simp only [ih,or_false];split<;>simp_all
theorem JO {l:List (Nat×Option α)} {b:Nat} (h:b∉keysOf l):dV l b=none:=by
 cases h':dV l b with
 | none=>rfl
 | some x=>exact absurd ((vV l b).1 (by rw [h'];simp)) h
def jq:List (List (Nat×Option α))->Nat->(Nat->Bool)->Nat->Option (Option α)
 | [],_,_,_=>none
 | u::us,k,D,b=>match jq us (k+1) D b with
   | some x=>some x
   | none=>if D k=true then dV u b else none
def gU:List (List (Nat×Option α))->Nat->(Nat->Bool)->Tr α->Tr α
 | [],_,_,t=>t
 | u::us,k,D,t=>gU us (k+1) D (if D k=true then y9 u t else t)
theorem zx:∀ (us:List (List (Nat×Option α))) (k:Nat) (D:Nat->Bool) (t:Tr α) (b:Nat),(gU us k D t).get b=(jq us k D b).getD (t.get b)
 | [],_,_,_,_=>rfl
 | u::us,k,D,t,b=>by
   rw [gU,zx us,jq];cases jq us (k+1) D b with
   | some x=>rfl
   | none=>
     simp only [sN];split
     ·rw [RZ]
     ·rfl
def fZ:List (List (Nat×Option α))->Tr α->Tr α
 | [],t=>t
 | u::us,t=>fZ us (y9 u t)
theorem Gj:∀ (us:List (List (Nat×Option α))) (k:Nat) (D E:Nat->Bool) (b:Nat),(∀ (j:Nat) u,us[j]? = some u->D (k+j)≠E (k+j)->dV u b=none)->jq us k D b=jq us k E b
 | [],_,_,_,_,_=>rfl
 | u::us,k,D,E,b,h=>by
   have ih:=Gj us (k+1) D E b (λj v hj hne=>h (j+1) v (by simpa using hj) (by rw [show k+(j+1)=k+1+j by omega];exact hne));have h0:=h 0 u (by simp);rw [jq,jq,ih];cases jq us (k+1) E b with
   | some x=>rfl
   | none=>
     simp only [jU] at h0;by_cases e:D k=E k
     ·rw [e]
     ·rw [h0 e];simp
theorem ahX (us:List (List (Nat×Option α))) (k:Nat) (D:Nat->Bool) (b:Nat) (h:∀j,j < us.length->D (k+j)=false):jq us k D b=none:=by
 induction us generalizing k with
 | nil=>rfl
 | cons u us ih=>
   rw [jq,ih (k+1) (λj hj=>by rw [show k+1+j=k+(j+1) by omega];exact h (j+1) (by simpa using hj))];have:=h 0 (by simp);simp only [jU] at this;simp [this]
theorem TP:∀ (us:List (List (Nat×Option α))) (k:Nat) (D:Nat->Bool) (b:Nat) (x:Option α),jq us k D b=some x->∃ (j:Nat) (u:List (Nat×Option α)),us[j]? = some u/\D (k+j)=true/\dV u b=some x
 | [],_,_,_,_,h=>by simp [jq] at h
 | u::us,k,D,b,x,h=>by
   rw [jq] at h;split at h
   ·next y hy=>
    cases h;obtain ⟨j,v,h1,h2,h3⟩:=TP us (k+1) D b _ hy;exact ⟨j+1,v,by simpa using h1,by rw [show k+(j+1)=k+1+j by omega];exact h2,h3⟩
   ·split at h
    ·next hd=>exact ⟨0,u,by simp,by simpa using hd,h⟩
    ·cases h
theorem FX:∀ (us:List (List (Nat×Option α))) (i k:Nat) (t:Tr α) (b:Nat),(fZ (us.take i) t).get b=(jq us k (λj=>decide (j < k+i)) b).getD (t.get b)
 | [],i,k,t,b=>by simp [fZ,jq]
 | u::us,0,k,t,b=>by
   rw [ahX _ _ _ _ (λj _=>by simp)];rfl
 | u::us,i+1,k,t,b=>by
   have ih:=FX us i (k+1) (y9 u t) b;simp only [wI,fZ];rw [ih,jq];have:(λj=>decide (j < k+1+i))=λj=>decide (j < k+(i+1)):=by funext j;congr 1;apply propext;omega
   rw [this];cases jq us (k+1) (λj=>decide (j < k+(i+1))) b with
   | some x=>rfl
   | none=>
     simp only [sN];rw [ak (by simp),RZ]
theorem TN:∀ (us:List (List (Nat×Option α))) (k i:Nat) (D:Nat->Bool) (b:Nat) (u:List (Nat×Option α)),us[i]? = some u->D (k+i)=false->
 (∀ (j:Nat) v,us[j]? = some v->i < j->D (k+j)=true->dV u b≠none->dV v b=none)->
 jq us k (λj=>D j || Nat.beq j (k+i)) b=match dV u b with | some x=>some x | none=>jq us k D b
 | [],_,_,_,_,_,h,_,_=>by simp at h
 | v::us,k,0,D,b,u,h,hD,hdis=>by
   simp at h;subst h;have tail:jq us (k+1) (λj=>D j || Nat.beq j (k+0)) b=jq us (k+1) D b:=by
    refine Gj _ _ _ _ _ λj w hj hne=>?_;exfalso;apply hne;have:Nat.beq (k+1+j) (k+0)=false:=uT (by omega);simp only [this,yQ]
   simp only [jq,tail];simp only [jU] at hD ⊢;have hb:Nat.beq k k=true:=by simp
   cases hl:dV v b with
   | none=>simp [hb,hD,hl]
   | some x=>
     have:jq us (k+1) D b=none:=by
      cases ht:jq us (k+1) D b with
      | none=>rfl
      | some y=>
        obtain ⟨j,w,h1,h2,h3⟩:=TP _ _ _ _ _ ht;have:=hdis (j+1) w (by simpa using h1) (by omega) (by rw [show k+(j+1)=k+1+j by omega];exact h2) (by rw [hl];simp);rw [this] at h3;cases h3
     simp [this,hb,hl]
 | v::us,k,i+1,D,b,u,h,hD,hdis=>by
   have ih:=TN us (k+1) i D b u (by simpa using h) (by rw [show k+1+i=k+(i+1) by omega];exact hD) (λj w hj hij wV=>hdis (j+1) w (by simpa using hj) (by omega) (by rw [show k+(j+1)=k+1+j by omega];exact wV));have e:(λj=>D j || Nat.beq j (k+1+i))=λj=>D j || Nat.beq j (k+(i+1)):=by funext j;congr 2;omega
   rw [e] at ih;simp only [jq,ih];have hk:Nat.beq k (k+(i+1))=false:=uT (by omega);cases hl:dV u b with
   | some x=>simp
   | none=>simp [hk]
theorem wU (t:Tr α):∀ (l:List Nat) (b:Nat),(gu t l).get b=if b∈l then t.get b else none
 | [],b=>by simp [gu]
 | k::l,b=>by
   rw [gu,Tr.tJ,wU t l];by_cases e:b=k
   ·subst e;simp
   ·simp [e]
theorem Z7:∀ (l:List Nat) (t:Tr α) (b:Nat),(A8 t l).get b=if b∈l then none else t.get b
 | [],t,b=>by simp [A8]
 | k::l,t,b=>by
   rw [A8,Z7 l,Tr.tJ];by_cases e:b=k
   ·subst e;simp
   ·simp [e]
end
theorem Ue {get:Nat->Nat} {j:Nat}:∀ {es:List Edge},(xk get es).testBit j=true->∃e∈es,Region.binds .any e=true/\(j=e.on\/(get e.on).testBit j=true)
 | [],h=>by simp [xk] at h
 | e::es,h=>by
   rw [xk] at h;split at h
   ·next hb=>
    rw [Le,Le,kR,kR,Nat.testBit_two_pow] at h;rcases h with (h | h) | h
    ·exact ⟨e,by simp,hb,.inl (Gt h).symm⟩
    ·exact ⟨e,by simp,hb,.inr h⟩
    ·obtain ⟨e',h1,h2,h3⟩:=Ue h
     exact ⟨e',by simp [h1],h2,h3⟩
   ·obtain ⟨e',h1,h2,h3⟩:=Ue h
    exact ⟨e',by simp [h1],h2,h3⟩
theorem aa8:∀ (os:List Oper) (acc:List Nat),(jr os acc).length=acc.length+os.length/\(∀k,k < acc.length->(jr os acc)[k]? = acc[k]?)/\
 ∀ (k:Nat) o,os[k]? = some o->(jr os acc)[acc.length+k]? = some (xk (λj=>((jr os acc).take (acc.length+k)).getD j 0) o.after.toList)
 | [],acc=>by simp [jr]
 | o::os,acc=>by
   obtain ⟨h1,h2,h3⟩:=aa8 os (acc++[xk (λk=>acc.getD k 0) o.after.toList]);rw [jr];simp only [bY,jT,sJ] at h1 h2 h3;refine ⟨by simp only [jT];omega,λk hk=>?_,λk o' ho=>?_⟩
   ·rw [h2 k (by omega),kT hk]
   ·cases k with
    | zero=>
      simp at ho;subst ho;rw [jU,h2 acc.length (by omega),sH (cZ _)];simp only [xK,gW];congr 2;funext j;by_cases hj:j < acc.length
      ·rw [xG,xG,jO,ak hj,h2 j (by omega),kT hj]
      ·rw [xG,xG,jO,ah hj,vF (by omega)]
    | succ k=>
      have:=h3 k o' (by simpa using ho);rw [show acc.length+1+k=acc.length+(k+1) by omega] at this;exact this
theorem aa9:∀ (M:List Nat) (k:Nat),Gn M k=true->∀ (j m:Nat),M[j]? = some m->m < 2 ^ (k+j)
 | [],_,_,j,m,h=>by simp at h
 | x::M,k,h,j,m,hj=>by
   simp only [Gn,aG] at h;cases j with
   | zero=>simp at hj;subst hj;have h':=h.1;rw [iC] at h';simpa using h'
   | succ j=>
     have:=aa9 M (k+1) h.2 j m (by simpa using hj);rw [show k+(j+1)=k+1+j by omega];exact this
end
end Go.aJ
namespace Go.aJ
set_option linter.unusedSimpArgs false
noncomputable section
variable [aC]
set_option linter.unusedSectionVars false
set_option linter.unusedVariables false
variable {P:Program}
theorem LJ {η:Env} {τ τ':aj} {w:World} (h:SR P η τ w) {call:Caller} (hcall:pU P call) {o:Oper} {a:aW} {A:Act} (ht:TR P η a A) {r:Option AV} {K:Act->World->Prop} {Q:Exit->Act->World->Prop}
 (hs:oV P call o a.eval τ=some (r,τ')) (hK:∀x η' w',St P η τ w η' τ' w'->(∀v,r=some v->VR η' v x)->K (A.put o.dst x) w'):o.wp P A w K Q:=by
 cases hc:Bg o.op with
 | true=>
   refine Yf h hcall ht hc hs λv x η' w' hr hst hv=>hK x η' w' hst λu hu=>by rw [hr] at hu;cases hu;exact hv
 | false=>
   obtain ⟨nx,w',η',hrun,hst,hres⟩:=abD h (λx v hv=>Jp h ht x v hv) hc hs;unfold Oper.wp;rw [hrun];cases r with
   | none=>subst hres;exact hK undef η' w' hst (by simp)
   | some v=>
     obtain ⟨x,rfl,hv⟩:=hres;exact hK x η' w' hst (λu hu=>by cases hu;exact hv)
def Env.cut (η:Env) (c:Nat):Env:=⟨λid=>if id < c then η id else none,η.ro,λid=>decide (id < c)&&η.gh id⟩
theorem Env.Fp (η:Env) (c:Nat):(η.cut c).le η:=⟨λid q h=>(by
 simp only [Env.cut] at h;split at h
 ·exact h
 ·cases h),λ_ _ h=>h,λ_ h=>(aG _ _ ▸ h:_/\_).2⟩
theorem Env.YH {η:Env} {c id:Nat} (h:id < c) (hg:η.gh id=true):(η.cut c).gh id=true:=by simp [Env.cut,h,hg]
mutual
theorem VR.cut {η:Env} {c:Nat}:∀ (a:AV) (v:Value),a.under c=true->VR η a v->VR (η.cut c) a v
 | .b _,_,_,hv=>by simpa only [VR] using hv
 | .i _ _,_,_,hv=>by simpa only [VR] using hv
 | .s _,_,_,hv=>by simpa only [VR] using hv
 | .iO,_,_,hv=>by simpa only [VR] using hv
 | .p id _,_,hu,hv=>by
   simp only [VR] at hv ⊢;obtain ⟨q,hq,e⟩:=hv;simp only [AV.under,iC] at hu;exact ⟨q,by simp only [Env.cut];rw [ak hu];exact hq,e⟩
 | .dA,_,_,hv=>by simpa only [VR] using hv
 | .sl id _ _ _,_,hu,hv=>by
   simp only [VR] at hv ⊢;obtain ⟨q,hq,e⟩:=hv;simp only [AV.under,iC] at hu;exact ⟨q,by simp only [Env.cut];rw [ak hu];exact hq,e⟩
 | .nY,_,_,hv=>by simpa only [VR] using hv
 | .mp id,_,hu,hv=>by
   simp only [VR] at hv ⊢;obtain ⟨q,hq,e⟩:=hv;simp only [AV.under,iC] at hu;exact ⟨q,by simp only [Env.cut];rw [ak hu];exact hq,e⟩
 | .xu,_,_,hv=>by simpa only [VR] using hv
 | .fn _ fi cs,_,hu,hv=>by
   simp only [VR] at hv ⊢;simp only [AV.under,aG] at hu;obtain ⟨us,vs,e,h1,h2⟩:=hv;exact ⟨us,vs,e,ay.cut fi us hu.1 h1,ay.cut cs vs hu.2 h2⟩
 | .qy,_,_,hv=>by simpa only [VR] using hv
 | .dO _ a,_,hu,hv=>by simp only [VR] at hv ⊢;simp only [AV.under] at hu;obtain ⟨x,e,h1⟩:=hv;exact ⟨x,e,VR.cut a x hu h1⟩
 | .agg l,_,hu,hv=>by simp only [VR] at hv ⊢;simp only [AV.under] at hu;obtain ⟨x,e,h1⟩:=hv;exact ⟨x,e,ay.cut l x hu h1⟩
 | .cO l,_,hu,hv=>by simp only [VR] at hv ⊢;simp only [AV.under] at hu;obtain ⟨x,e,h1⟩:=hv;exact ⟨x,e,ay.cut l x hu h1⟩
 | .z _ _ _,_,_,hv=>by simpa only [VR] using hv
 | .ro l,_,hu,hv=>by
   simp only [VR] at hv ⊢;simp only [AV.under] at hu;rcases hv with hv | ⟨bl,off,cp,xs,sz,e,hc,h1,h2,h3⟩
   ·exact .inl hv
   right;exact ⟨bl,off,cp,xs,sz,e,hc,ay.cut l xs hu h1,h2,h3⟩
 | .rp a _,_,hu,hv=>by
   simp only [VR] at hv ⊢;simp only [AV.under] at hu;obtain ⟨bl,base,cs,elem,fr,x,h1,h2,h3⟩:=hv;exact ⟨bl,base,cs,elem,fr,x,h1,VR.cut a x hu h2,h3⟩
 | .nd _,_,_,hv=>by simp only [VR] at hv ⊢;exact hv
 | .rx _ _,_,_,hv=>by simp only [VR] at hv ⊢;exact hv
 | .sv id _,_,hu,hv=>by
   simp only [VR] at hv ⊢;simp only [AV.under,iC] at hu;obtain ⟨xs,h1,⟨q,hq,h2⟩ | h2⟩:=hv
   ·exact ⟨xs,h1,.inl ⟨q,by simp only [Env.cut];rw [ak hu];exact hq,h2⟩⟩
   ·exact ⟨xs,h1,.inr ⟨Env.YH hu h2.1,h2.2⟩⟩
 | .pv id _ _,_,hu,hv=>by
   simp only [VR] at hv ⊢;simp only [AV.under,iC] at hu;obtain ⟨q,k,i,hq,h2⟩:=hv;exact ⟨q,k,i,by simp only [Env.cut];rw [ak hu];exact hq,h2⟩
 | .pd id _,_,hu,hv=>by
   simp only [VR] at hv ⊢;simp only [AV.under,iC] at hu;obtain ⟨xs,p,h1,h2,h3⟩:=hv;exact ⟨xs,p,h1,h2,λhn=>by obtain ⟨q,hq,h4⟩:=h3 hn;exact ⟨q,by simp only [Env.cut];rw [ak hu];exact hq,h4⟩⟩
theorem ay.cut {η:Env} {c:Nat}:∀ (l:List AV) (vs:List Value),AV.nJ c l=true->ay η l vs->ay (η.cut c) l vs
 | [],_,_,hv=>by simpa only [ay] using hv
 | a::l,_,hu,hv=>by
   simp only [ay] at hv ⊢;simp only [AV.nJ,aG] at hu;obtain ⟨x,xs,e,h1,h2⟩:=hv;exact ⟨x,xs,e,VR.cut a x hu.1 h1,ay.cut l xs hu.2 h2⟩
end
theorem ac6 {c:Nat}:∀ {l:List AV} {k:Nat} {a:AV},AV.nJ c l=true->l[k]? = some a->a.under c=true
 | [],k,a,_,h=>by simp at h
 | x::l,k,a,hu,h=>by
   simp only [AV.nJ,aG] at hu;cases k with
   | zero=>simp at h;subst h;exact hu.1
   | succ k=>exact ac6 hu.2 (by simpa using h)
theorem OR.cut {η:Env} {c:Nat} {q:Place} {w:World} {o:aZ} (hu:xW c o=true) (h:OR P η q w o):OR P (η.cut c) q w o:=by
 cases o with
 | cells l et rw opn=>
   obtain ⟨cs,elem,fr,h1,r⟩:=h;exact ⟨cs,elem,fr,h1, { r with cell:=λk a hk=>by obtain ⟨x,hx,hv⟩:=r.cell k a hk;exact ⟨x,hx,VR.cut a x (ac6 hu hk) hv⟩ }⟩
 | iter s pos=>exact h
 | map es=>
   obtain ⟨ms,clock,h1,h2,h3⟩:=h;refine ⟨ms,clock,h1,h2,λk e hk=>?_⟩;obtain ⟨m,hm,ha,hb⟩:=h3 k e hk;simp only [xW,List.all_eq_true,aG] at hu;have:=hu e (qF hk);exact ⟨m,hm,VR.cut _ _ this.1 ha,VR.cut _ _ this.2 hb⟩
 | iterM m=>
   cases m with
   | none=>exact h
   | some m=>
     obtain ⟨h0,since,last,q',h1,h2⟩:=h;simp only [xW,iC] at hu;exact ⟨h0,since,last,q',by simp only [Env.cut];rw [ak hu];exact h1,h2⟩
 | smap n kk sz=>exact h
 | pmap es=>
   obtain ⟨hn,ms,clock,ms',h1,hp,h2,h3⟩:=h;refine ⟨hn,ms,clock,ms',h1,hp,h2,λk e hk=>?_⟩;obtain ⟨m,hm,ha,hb⟩:=h3 k e hk;simp only [xW,List.all_eq_true] at hu;exact ⟨m,hm,ha,VR.cut _ _ (hu e (qF hk)) hb⟩
 | vec n et f=>
   obtain ⟨xs,cs,elem,fr,ys,h1,h2,h3,h4,h5,h6,r,h8⟩:=h;exact ⟨xs,cs,elem,fr,ys,h1,h2,h3,h4,h5,h6, { r with cell:=λk a hk=>by simp at hk },h8⟩
theorem St.merge {η ηi pR η':Env} {σ σ' τ τ':aj} {w w':World} {upd:List (Nat×Option aZ)} (hS:SR P η σ w) (NU:SR P ηi τ w) (hst:St P ηi τ w pR τ' w') (sub:∀id o,τ.get id=some o->σ.get id=some o) (hi:ηi.le η) (hro:ηi.ro=η.ro) (NW:η'.ro=pR.ro)
 (h1:η.le η') (h2:pR.le η') (hg:∀b,σ'.get b=(dV upd b).getD (σ.get b))
 (hu:∀b o,dV upd b=some (some o)->τ'.get b=some o/\((∃o0,τ.get b=some o0/\o0.own=true)\/(o.own=true/\τ.get b=none)))
 (Ih:∀id o,τ.get id=some o->o.own=true->τ.lock<=id->dV upd id≠none) (hlk:σ.lock<=τ.lock) (Gf:∀b,dV upd b≠none->τ.lock<=b)
 (hnx:∀id q,η' id=some q->id < σ'.next) (hgh:∀id,η'.gh id=true->η' id=none/\id < σ'.next) :
 SR P η' σ' w'/\w.heap.size<=w'.heap.size/\
 (∀bl,bl < w.heap.size->(∀id o q,σ.get id=some o->o.own=true->σ.lock<=id->η id=some q->q.bl≠bl)->w'.heap[bl]? = w.heap[bl]?)/\
 (∀id o q,σ'.get id=some o->o.own=true->σ.lock<=id->η' id=some q->w.heap.size<=q.bl\/∃bZ o0 q0,σ.get bZ=some o0/\o0.own=true/\σ.lock<=bZ/\η bZ=some q0/\q0.bl=q.bl)/\
 (∀b,η'.ro b≠none->η.ro b≠none\/w.heap.size<=b\/∃bZ o0 q0,σ.get bZ=some o0/\o0.own=true/\σ.lock<=bZ/\η bZ=some q0/\q0.bl=b):=by
 have stays:∀b o q,dV upd b=none->σ.get b=some o->η b=some q->q.bl < w.heap.size->w'.heap[q.bl]? = w.heap[q.bl]?:=by
  intro b o q hb ho hq hlt;refine hst.keep _ hlt ?_;intro id o2 q2 a1 a2 a3 a4;have hne:id≠b:=λe=>Ih id o2 a1 a2 a3 (by rw [e];exact hb);exact hS.sep id o2 b o q2 q (sub _ _ a1) a2 ho hne (hi.pl _ _ a4) hq
 have place:∀b o q,dV upd b=some (some o)->η' b=some q->OR P η' q w' o/\pR b=some q:=by
  intro b o q hb hq';rcases hst.rel.live b o (hu b o hb).1 with ⟨p,hp,hr⟩ | ⟨hgb,_⟩
  ·have:=h2.pl _ _ hp
   rw [hq'] at this;cases this;exact ⟨hr.mono h2,hp⟩
  ·rw [(hgh b (h2.gh b hgb)).1] at hq';cases hq'
 have old:∀id o q,σ.get id=some o->η' id=some q->η id=some q/\OR P η q w o:=by
  intro id o q ho hq';rcases hS.live id o ho with ⟨p,hp,hr⟩ | ⟨hgb,_⟩
  ·have:=h1.pl _ _ hp
   rw [hq'] at this;cases this;exact ⟨hp,hr⟩
  ·rw [(hgh id (h1.gh id hgb)).1] at hq';cases hq'
 have WC:∀b o q,dV upd b=some (some o)->pR b=some q->(w.heap.size<=q.bl)\/(∃bZ o0 q0,τ.get bZ=some o0/\o0.own=true/\τ.lock<=bZ/\ηi bZ=some q0/\q0.bl=q.bl):=by
  intro b o q hb hq;obtain ⟨h4,h5⟩:=hu b o hb;rcases h5 with ⟨o0,h6,h7⟩ | ⟨h6,h7⟩
  ·rcases NU.live b o0 h6 with ⟨p',hp',_⟩ | ⟨hgb,_⟩
   ·have:=hst.ext.pl _ _ hp'
    rw [hq] at this;cases this;exact .inr ⟨b,o0,q,h6,h7,Gf b (by rw [hb];simp),hp',rfl⟩
   ·rw [(hst.rel.iI b (hst.ext.gh b hgb)).1] at hq;cases hq
  ·rcases hst.own b o q h4 h6 (Gf b (by rw [hb];simp)) hq with h8 | h8
   ·exact .inl h8
   ·exact .inr h8
 have Jf:∀id o,σ'.get id=some o->(dV upd id=some (some o))\/(dV upd id=none/\σ.get id=some o):=by
  intro id o ho;rw [hg] at ho;cases hl:dV upd id with
  | none=>rw [hl] at ho;exact .inr ⟨rfl,ho⟩
  | some x=>rw [hl] at ho;simp only [oU] at ho;subst ho;exact .inl rfl
 refine ⟨⟨?_,hnx, ?_,hgh, ?_,λb o hb=>hst.rel.gV b o (by rw [<- NW];exact hb), ?_,λp hp=>(hS.tabs p hp).mono h1⟩,hst.size, ?_, ?_, ?_⟩
 ·intro g hgg;obtain ⟨sz,es,h5⟩:=hS.ku g hgg;exact ⟨sz,es,h1.pl _ _ h5⟩
 ·intro id o ho
  rcases Jf id o ho with h4 | ⟨h4,h5⟩
  ·exact (hst.rel.live id o (hu id o h4).1).mono h2
  ·exact ((hS.live id o h5).heap (w:=w) λq hq hr=>stays id o q h4 h5 hq hr.lt).mono h1
 ·intro id o id' o' q q' a1 a2 a3 a4 a5 a6
  rcases Jf id o a1 with b1 | ⟨b1,b1'⟩<;>rcases Jf id' o' a3 with b2 | ⟨b2,b2'⟩
  ·obtain ⟨_,c2⟩:=place id o q b1 a5
   obtain ⟨_,c4⟩:=place id' o' q' b2 a6;exact hst.rel.sep id o id' o' _ _ (hu _ _ b1).1 a2 (hu _ _ b2).1 a4 c2 c4
  ·obtain ⟨_,c2⟩:=place id o q b1 a5
   obtain ⟨d1,d2⟩:=old id' o' q' b2' a6;rcases WC id o q b1 c2 with e | ⟨bZ,o0,q0,e1,e2,e3,e4,e5⟩
   ·have:=d2.lt;omega
   ·rw [<- e5]
    exact hS.sep bZ o0 id' o' q0 q' (sub _ _ e1) e2 b2' (λe=>Ih bZ o0 e1 e2 e3 (by rw [e];exact b2)) (hi.pl _ _ e4) d1
  ·obtain ⟨_,c4⟩:=place id' o' q' b2 a6
   obtain ⟨d1,d2⟩:=old id o q b1' a5;rcases WC id' o' q' b2 c4 with e | ⟨bZ,o0,q0,e1,e2,e3,e4,e5⟩
   ·have:=d2.lt;omega
   ·rw [<- e5]
    exact hS.sep id o bZ o0 q q0 b1' a2 (sub _ _ e1) (λe=>Ih bZ o0 e1 e2 e3 (by rw [<- e];exact b1)) d1 (hi.pl _ _ e4)
  ·exact hS.sep id o id' o' _ _ b1' a2 b2' a4 (old id o q b1' a5).1 (old id' o' q' b2' a6).1
 ·intro id o q a1 a2 a3
  rcases Jf id o a1 with b1 | ⟨b1,b1'⟩
  ·obtain ⟨_,c2⟩:=place id o q b1 a3
   rw [NW];exact hst.rel.jy id o q (hu _ _ b1).1 a2 c2
  ·obtain ⟨d1,d2⟩:=old id o q b1' a3
   cases hr:η'.ro q.bl with
   | none=>rfl
   | some o2=>
     exfalso;rcases hst.oM q.bl (by rw [<- NW,hr];simp) with e | e | ⟨bZ,o0,q0,e1,e2,e3,e4,e5⟩
     ·rw [hro,hS.jy id o q b1' a2 d1] at e;exact e rfl
     ·have:=d2.lt;omega
     ·exact hS.sep bZ o0 id o q0 q (sub _ _ e1) e2 b1' (λe=>Ih bZ o0 e1 e2 e3 (by rw [e];exact b1)) (hi.pl _ _ e4) d1 e5
 ·intro bl hbl hno
  exact hst.keep bl hbl λid o q a1 a2 a3 a4=>hno id o q (sub _ _ a1) a2 (jF hlk a3) (hi.pl _ _ a4)
 ·intro id o q a1 a2 a3 a4
  rcases Jf id o a1 with b1 | ⟨b1,b1'⟩
  ·obtain ⟨_,c2⟩:=place id o q b1 a4
   rcases WC id o q b1 c2 with e | ⟨bZ,o0,q0,e1,e2,e3,e4,e5⟩
   ·exact .inl e
   ·exact .inr ⟨bZ,o0,q0,sub _ _ e1,e2,jF hlk e3,hi.pl _ _ e4,e5⟩
  ·obtain ⟨d1,_⟩:=old id o q b1' a4
   exact .inr ⟨id,o,q,b1',a2,a3,d1,rfl⟩
 ·intro b hb
  rcases hst.oM b (by rw [<- NW];exact hb) with e | e | ⟨bZ,o0,q0,e1,e2,e3,e4,e5⟩
  ·rw [hro] at e;exact .inl e
  ·exact .inr (.inl e)
  ·exact .inr (.inr ⟨bZ,o0,q0,sub _ _ e1,e2,jF hlk e3,hi.pl _ _ e4,e5⟩)
theorem St.then {η0 η η':Env} {σ0 σ σ':aj} {w0 w w':World} (h:St P η0 σ0 w0 η σ w) (hle:η.le η') (rel:SR P η' σ' w') (size:w.heap.size<=w'.heap.size)
 (keep:∀bl,bl < w.heap.size->(∀id o q,σ.get id=some o->o.own=true->σ.lock<=id->η id=some q->q.bl≠bl)->w'.heap[bl]? = w.heap[bl]?)
 (own:∀id o q,σ'.get id=some o->o.own=true->σ.lock<=id->η' id=some q->w.heap.size<=q.bl\/∃bZ o0 q0,σ.get bZ=some o0/\o0.own=true/\σ.lock<=bZ/\η bZ=some q0/\q0.bl=q.bl)
 (os:w'.os=w.os) (tape:w'.tape=w.tape) (output:w'.output=w.output) (lock:σ'.lock=σ.lock) (next:σ.next<=σ'.next)
 (new:∀id,η'.has id->η.has id\/(σ0.next<=id/\id < σ'.next))
 (oM:∀b,η'.ro b≠none->η.ro b≠none\/w.heap.size<=b\/∃bZ o0 q0,σ.get bZ=some o0/\o0.own=true/\σ.lock<=bZ/\η bZ=some q0/\q0.bl=b):St P η0 σ0 w0 η' σ' w':=by
 refine ⟨h.ext.trans hle,rel,jF h.size size, ?_, ?_,os.trans h.os,tape.trans h.tape,output.trans h.output,lock.trans h.lock,jF h.next next, ?_, ?_⟩
 ·intro bl hbl hno
  rw [keep bl (uD hbl h.size) ?_,h.keep bl hbl hno];intro id o q h1 h2 h3 h4;rcases h.own id o q h1 h2 (h.lock ▸ h3) h4 with h5 | ⟨bZ,o0,q0,a,b,c,d,e⟩
  ·omega
  ·rw [<- e];exact hno bZ o0 q0 a b c d
 ·intro id o q h1 h2 h3 h4
  rcases own id o q h1 h2 (by rw [h.lock];exact h3) h4 with h5 | ⟨bZ,o0,q0,a,b,c,d,e⟩
  ·exact .inl (jF h.size h5)
  ·rcases h.own bZ o0 q0 a b (h.lock ▸ c) d with h6 | ⟨id1,o1,q1,a1,b1,c1,d1,e1⟩
   ·left;omega
   ·exact .inr ⟨id1,o1,q1,a1,b1,c1,d1,e1.trans e⟩
 ·intro id hq
  rcases new id hq with h1 | h1
  ·rcases h.new id h1 with h3 | ⟨h3,h4⟩
   ·exact .inl h3
   ·exact .inr ⟨h3,uD h4 next⟩
  ·exact .inr h1
 ·intro b hb
  rcases oM b hb with h1 | h1 | ⟨bZ,o0,q0,a1,b1,c1,d1,e1⟩
  ·exact h.oM b h1
  ·exact .inr (.inl (jF h.size h1))
  ·rcases h.own bZ o0 q0 a1 b1 (h.lock ▸ c1) d1 with h2 | ⟨id2,o2,q2,a2,b2,c2,d2,e2⟩
   ·right;left;omega
   ·exact .inr (.inr ⟨id2,o2,q2,a2,b2,c2,d2,e2.trans e1⟩)
end
end Go.aJ
namespace Go.aJ
set_option linter.unusedSimpArgs false
noncomputable section
variable [aC]
set_option linter.unusedSectionVars false
set_option linter.unusedVariables false
variable {P:Program}
def gI (rs:List bJ):List (List (Nat×Option AV)):=rs.map (·.slot)
def eY (rs:List bJ):List (List (Nat×Option aZ)):=rs.map (·.upd)
def iw:Nat->List bJ->Nat->Nat
 | c,_,0=>c
 | c,[],_=>c
 | _,r::rs,k+1=>iw r.next rs k
theorem YI {call:Caller} {ops:Array Oper} {M:List Nat} {N0 lock gn n:Nat}:∀ (m:Nat) (prev:List bJ) (i:Nat) (t:Tr AV) (h:Tr aZ) (c:Nat) (rs:List bJ) (t':Tr AV) (h':Tr aZ) (c':Nat),
 Jj P call ops M N0 lock gn n m prev i t h c=some (rs,t',h',c')->∃new,rs=prev++new/\new.length=m/\t'=fZ (gI new) t/\h'=fZ (eY new) h/\c'=iw c new m/\
  ∀ (k:Nat) r,new[k]? = some r->uO P call ops M N0 lock gn n (prev++new.take k) (i+k) (fZ ((gI new).take k) t) (fZ ((eY new).take k) h) (iw c new k)=some r
 | 0,prev,i,t,h,c,rs,t',h',c',hs=>by
   simp only [Jj,aT,jG] at hs;obtain ⟨rfl,rfl,rfl,rfl⟩:=hs;exact ⟨[],by simp,rfl,rfl,rfl,rfl,by simp⟩
 | m+1,prev,i,t,h,c,rs,t',h',c',hs=>by
   unfold Jj at hs;split at hs
   ·cases hs
   ·next r hr=>
    obtain ⟨new,h1,h2,h3,h4,h5,h6⟩:=YI m _ _ _ _ _ _ _ _ _ hs;refine ⟨r::new,by rw [h1];simp,by simp [h2], ?_, ?_, ?_, ?_⟩
    ·rw [h3];rfl
    ·rw [h4];rfl
    ·rw [h5];rfl
    ·intro k s hk
     cases k with
     | zero=>
       simp at hk;subst hk;simpa [fZ,gI,eY,iw] using hr
     | succ k=>
       have:=h6 k s (by simpa using hk);rw [show i+1+k=i+(k+1) by omega] at this;simp only [List.append_assoc,Xp] at this;simpa [gI,eY,fZ,iw] using this
theorem ae7 {call:Caller} {ops:Array Oper} {M:List Nat} {N0 lock gn n i c:Nat} {prev:List bJ} {t:Tr AV} {h:Tr aZ} {r:bJ} (hs:xZ P call ops M N0 lock gn n prev i t h c=some r):r.base=c:=by
 unfold xZ at hs;split at hs
 ·cases hs
 ·simp only at hs
  split at hs
  ·cases hs
  ·cases hs;rfl
  ·split at hs
   ·split at hs
    ·cases hs;rfl
    ·cases hs
   ·split at hs
    ·split at hs
     ·split at hs
      ·cases hs;rfl
      ·cases hs
     ·cases hs
    ·split at hs
     ·split at hs
      ·cases hs;rfl
      ·cases hs
     ·cases hs
    ·split at hs
     ·split at hs
      ·cases hs;rfl
      ·cases hs
     ·cases hs
    ·split at hs
     ·cases hs;rfl
     ·split at hs
      ·split at hs
       ·cases hs;rfl
       ·cases hs
      ·cases hs
theorem ae8 {call:Caller} {ops:Array Oper} {M:List Nat} {N0 lock gn n i c:Nat} {prev:List bJ} {t:Tr AV} {h:Tr aZ} {r:bJ} (hs:xZ P call ops M N0 lock gn n prev i t h c=some r):∃o v,ops[i]? = some o/\r.slot=kF o v:=by
 unfold xZ at hs;split at hs
 ·cases hs
 ·next o ho=>
  simp only at hs;split at hs
  ·cases hs
  ·cases hs;exact ⟨o,_,ho,rfl⟩
  ·split at hs
   ·split at hs
    ·cases hs;exact ⟨o,_,ho,rfl⟩
    ·cases hs
   ·split at hs
    ·split at hs
     ·split at hs
      ·cases hs;exact ⟨o,_,ho,rfl⟩
      ·cases hs
     ·cases hs
    ·split at hs
     ·split at hs
      ·cases hs;exact ⟨o,_,ho,rfl⟩
      ·cases hs
     ·cases hs
    ·split at hs
     ·split at hs
      ·cases hs;exact ⟨o,_,ho,rfl⟩
      ·cases hs
     ·cases hs
    ·split at hs
     ·cases hs;exact ⟨o,_,ho,rfl⟩
     ·split at hs
      ·split at hs
       ·cases hs;exact ⟨o,_,ho,rfl⟩
       ·cases hs
      ·cases hs
theorem afa {call:Caller} {ops:Array Oper} {M:List Nat} {N0 lock gn n i c:Nat} {prev:List bJ} {t:Tr AV} {h:Tr aZ} {r:bJ} (hs:xZ P call ops M N0 lock gn n prev i t h c=some r):r.fin=none:=by
 unfold xZ at hs;split at hs
 ·cases hs
 ·simp only at hs
  split at hs
  ·cases hs
  ·cases hs;rfl
  ·split at hs
   ·split at hs
    ·cases hs;rfl
    ·cases hs
   ·split at hs
    ·split at hs
     ·split at hs
      ·cases hs;rfl
      ·cases hs
     ·cases hs
    ·split at hs
     ·split at hs
      ·cases hs;rfl
      ·cases hs
     ·cases hs
    ·split at hs
     ·split at hs
      ·cases hs;rfl
      ·cases hs
     ·cases hs
    ·split at hs
     ·cases hs;rfl
     ·split at hs
      ·split at hs
       ·cases hs;rfl
       ·cases hs
      ·cases hs
theorem ae9 {call:Caller} {ops:Array Oper} {M:List Nat} {N0 lock gn n i c:Nat} {prev:List bJ} {t:Tr AV} {h:Tr aZ} {r:bJ} (hs:uO P call ops M N0 lock gn n prev i t h c=some r):r.base=c:=by
 unfold uO at hs;split at hs
 ·unfold Fq at hs
  split at hs
  ·cases hs
  ·split at hs
   ·cases hs
   ·cases hs;rfl
   ·split at hs
    ·cases hs;rfl
    ·cases hs
 ·exact ae7 hs
theorem afb {call:Caller} {ops:Array Oper} {M:List Nat} {N0 lock gn n i c:Nat} {prev:List bJ} {t:Tr AV} {h:Tr aZ} {r:bJ} (hs:uO P call ops M N0 lock gn n prev i t h c=some r):∃o v,ops[i]? = some o/\r.slot=kF o v:=by
 unfold uO at hs;split at hs
 ·unfold Fq at hs
  split at hs
  ·cases hs
  ·next o ho=>
   split at hs
   ·cases hs
   ·cases hs;exact ⟨o,_,ho,rfl⟩
   ·split at hs
    ·cases hs;exact ⟨o,_,ho,rfl⟩
    ·cases hs
 ·exact ae8 hs
structure ou (ops:Array Oper) (M:List Nat) (rs:List bJ) (n N0:Nat):Prop where
 hM:M=jr ops.toList []
 Ui:Gn M 0=true
 len:rs.length=ops.size
 pairs:∀ (i j:Nat) r s,rs[i]? = some r->rs[j]? = some s->vk M i j=true->J4 ops N0 i j r s=true
 slot:∀ (i:Nat) r,rs[i]? = some r->r.base<=r.next/\∀p∈r.slot,p.1 < n
structure Ctx (P:Program) (call:Caller) (ops:Array Oper) (M:List Nat) (rs:List bJ) (a0:aW) (σ0:aj) (cf:Nat):Prop extends ou ops M rs a0.n σ0.next where
 one:∀ (i:Nat) r,rs[i]? = some r->uO P call ops M σ0.next σ0.lock a0.gn a0.n (rs.take i) i (fZ ((gI rs).take i) a0.t) (fZ ((eY rs).take i) σ0.h) (iw (σ0.next+ops.size) rs i)=some r
 fin:cf=iw (σ0.next+ops.size) rs ops.size
 big:cf<=qI
 lock:σ0.lock<=σ0.next
section
variable {call:Caller} {ops:Array Oper} {M:List Nat} {rs:List bJ} {a0:aW} {σ0:aj} {cf nn N0:Nat}
theorem Jc:∀ (rs:List bJ) (c k:Nat) (r:bJ),rs[k]? = some r->iw c rs (k+1)=r.next
 | [],c,k,r,h=>by simp at h
 | s::rs,c,0,r,h=>by simp at h;subst h;cases rs<;>rfl
 | s::rs,c,k+1,r,h=>by
   show iw s.next rs (k+1)=r.next
   exact Jc rs s.next k r (by simpa using h)
theorem Ctx.base (C:Ctx P call ops M rs a0 σ0 cf) {i:Nat} {r:bJ} (h:rs[i]? = some r):r.base=iw (σ0.next+ops.size) rs i:=ae9 (C.one i r h)
theorem Ctx.mono (C:Ctx P call ops M rs a0 σ0 cf):∀ (k i:Nat),i+k<=rs.length->iw (σ0.next+ops.size) rs i<=iw (σ0.next+ops.size) rs (i+k)
 | 0,i,_=>cZ _
 | k+1,i,h=>by
   have ih:=C.mono k i (by omega);have hlt:i+k < rs.length:=by omega
   have hr:rs[i+k]? = some rs[i+k]:=bK hlt;have:=(C.slot _ _ hr).1;rw [C.base hr] at this;rw [show i+(k+1)=(i+k)+1 by omega,Jc rs _ _ _ hr];omega
theorem Ctx.lt (C:Ctx P call ops M rs a0 σ0 cf) {i j:Nat} {r s:bJ} (hi:rs[i]? = some r) (hj:rs[j]? = some s) (h:i < j):r.next<=s.base:=by
 have hjl:=(dL.1 hj).1;have:=C.mono (j - (i+1)) (i+1) (by omega);rw [Jc rs _ _ _ hi,show i+1+(j - (i+1))=j by omega] at this;rw [C.base hj];exact this
theorem Ctx.lo (C:Ctx P call ops M rs a0 σ0 cf) {i:Nat} {r:bJ} (hi:rs[i]? = some r):σ0.next+ops.size<=r.base:=by
 have:=C.mono i 0 (by have:=(dL.1 hi).1;omega);rw [C.base hi];simpa [iw] using this
theorem Ctx.hi (C:Ctx P call ops M rs a0 σ0 cf) {i:Nat} {r:bJ} (hi:rs[i]? = some r):r.next<=cf:=by
 have hil:=(dL.1 hi).1;have:=C.mono (ops.size - (i+1)) (i+1) (by have:=C.len;omega);rw [Jc rs _ _ _ hi,show i+1+(ops.size - (i+1))=ops.size by have:=C.len;omega] at this;rw [C.fin];exact this
theorem Ctx.Q9 (C:Ctx P call ops M rs a0 σ0 cf):σ0.next+ops.size<=cf:=by
 have:=C.mono ops.size 0 (by have:=C.len;omega);rw [C.fin];simpa [iw] using this
theorem ou.mask (C:ou ops M rs nn N0) {i:Nat} {o:Oper} (ho:ops[i]? = some o):M[i]? = some (xk (λj=>(M.take i).getD j 0) o.after.toList)/\M.length=ops.size:=by
 obtain ⟨h1,_,h3⟩:=aa8 ops.toList [];have:=h3 i o (by simpa using ho);simp only [sJ,iH] at this h1;rw [C.hM];exact ⟨this,by simpa using h1⟩
def Closed (ops:Array Oper) (D:Nat->Bool):Prop:=∀i o,D i=true->ops[i]? = some o->∀e∈o.after.toList,Region.binds .any e=true->D e.on=true
theorem ou.nO (C:ou ops M rs nn N0) {D:Nat->Bool} (hD:Closed ops D):∀ (i:Nat) (o:Oper),ops[i]? = some o->(∀e∈o.after.toList,Region.binds .any e=true->D e.on=true)->∀j,pJ M j i=true->D j=true:=by
 intro i;induction i using Nat.strongRecOn with
 | _ i ih=>
   intro o ho eF j hj;obtain ⟨hm,hl⟩:=C.mask ho;unfold pJ at hj;rw [xG,hm] at hj;obtain ⟨e,he,hb,h1⟩:=Ue hj;have hDe:=eF e he hb;rcases h1 with rfl | h1
   ·exact hDe
   ·rw [xG,jO] at h1
    split at h1
    ·next hlt=>
     by_cases hin:e.on < ops.size
     ·have hoe:ops[e.on]? = some ops[e.on]:=by simp [hin]
      refine ih e.on hlt ops[e.on] hoe (λe' he' hb'=>hD e.on _ hDe hoe e' he' hb') j ?_;unfold pJ;rw [xG];exact h1
     ·rw [vF (by omega)] at h1
      simp at h1
    ·simp at h1
theorem ou.UA (C:ou ops M rs nn N0) {i j:Nat} (h:pJ M j i=true):j < i:=by
 unfold pJ at h;rw [xG] at h;cases hm:M[i]? with
 | none=>rw [hm] at h;simp at h
 | some m=>
   rw [hm] at h;have hlt:=aa9 M 0 C.Ui i m hm;simp only [iH,oU] at hlt h;exact Nat.lt_of_not_le λhle=>by
    have:=Nat.testBit_lt_two_pow (uD hlt (Ld (by omega) hle));rw [this] at h;cases h
theorem ou.open_ (C:ou ops M rs nn N0) {D:Nat->Bool} (hD:Closed ops D) {i j:Nat} {o:Oper} (ho:ops[i]? = some o) (hi:D i=false) (eF:∀e∈o.after.toList,Region.binds .any e=true->D e.on=true)
 (hj:j < ops.size) (hne:D j≠decide (j < i)):vk M i j=true:=by
 have hij:i≠j:=by rintro rfl;rw [hi] at hne;simp at hne
 have h1:pJ M j i=false:=by
  cases h:pJ M j i with
  | false=>rfl
  | true=>
    have h2:=C.nO hD i o ho eF j h;have h3:=C.UA h;rw [h2] at hne;simp [h3] at hne
 have h2:pJ M i j=false:=by
  cases h:pJ M i j with
  | false=>rfl
  | true=>
    have h3:=C.UA h;have h4:D j=true:=by
     cases wV:D j with
     | true=>rfl
     | false=>rw [wV] at hne;simp at hne;omega
    have hoj:ops[j]? = some ops[j]:=by simp [hj]
    have:=C.nO hD j _ hoj (λe he hb=>hD j _ h4 hoj e he hb) i h;rw [this] at hi;cases hi
 unfold vk;rw [uT hij,h1,h2];rfl
theorem Jo {l m:List Nat} (h:nR l m=true) {b:Nat} (hb:b∈l):b∉m:=by
 unfold nR at h;rw [List.all_eq_true] at h;have:=h b hb;simpa using this
end
end
end Go.aJ
