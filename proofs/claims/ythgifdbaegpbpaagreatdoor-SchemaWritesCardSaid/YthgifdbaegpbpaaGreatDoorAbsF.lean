/- Regions whose order Go leaves open: the evaluator goes by the text, and looks whether another order could make a difference. -/
import Derived.Test.YthgifdbaegpbpaaGreatDoorAbsE
namespace Go.aP
noncomputable section
variable [fF]
set_option linter.unusedSectionVars false
set_option linter.unusedVariables false
set_option linter.unusedSimpArgs false
def sW (get:Nat→Nat):List Edge→Nat
 | []=>0
 | e::es=>if Region.binds .any e then (2 ^ e.on ||| get e.on) ||| sW get es else sW get es
def jl:List Oper→List Nat→List Nat
 | [],acc=>acc
 | o::os,acc=>jl os (acc++[sW (fun k=>acc.getD k 0) o.after.toList])
def oz (M:List Nat) (j i:Nat):Bool:=(M.getD i 0).testBit j
def qW (M:List Nat) (i j:Nat):Bool:=!(Nat.beq i j)&&!(oz M j i)&&!(oz M i j)
def FB:List Nat→Nat→Bool
 | [],_=>true
 | m::ms,i=>Nat.blt m (2 ^ i)&&FB ms (i+1)
def xO {α:Type}:List (Nat×Option α)→Tr α→Tr α
 | [],t=>t
 | (k,v)::l,t=>xO l (t.set k v)
def iM {α:Type} (t:Tr α):List Nat→Tr α
 | []=>.nil
 | k::l=>(iM t l).set k (t.get k)
def yg {α:Type} (t:Tr α):List Nat→Tr α
 | []=>t
 | k::l=>yg (t.set k none) l
mutual
def AV.under (c:Nat):AV→Bool
 | .p id _=>Nat.blt id c
 | .sl id _ _ _=>Nat.blt id c
 | .mp id=>Nat.blt id c
 | .fn _ fi cs=>AV.lD c fi&&AV.lD c cs
 | .dD _ a=>a.under c
 | .agg l=>AV.lD c l
 | .bV l=>AV.lD c l
 | .ro l=>AV.lD c l
 | .rp a _=>a.under c
 | .sv id _=>Nat.blt id c
 | .pv id _ _=>Nat.blt id c
 | .pd id _=>Nat.blt id c
 | _=>true
def AV.lD (c:Nat):List AV→Bool
 | []=>true
 | a::l=>a.under c&&AV.lD c l
end
def vK (c:Nat):aZ→Bool
 | .cells l _ _ _=>AV.lD c l
 | .iter _ _=>true
 | .map es=>es.all fun e=>e.1.under c&&e.2.under c
 | .iterM (some m)=>Nat.blt m c
 | .iterM none=>true
 | .vec _ _ _=>true
 | .smap _ _ _=>true
def Ei (c:Nat) (h:Tr aZ):List Nat→Bool
 | []=>true
 | k::l=>Nat.blt k c&&(match h.get k with | some o=>vK c o | none=>true)&&Ei c h l
def BL (c:Nat) (t:Tr AV):List Nat→Bool
 | []=>true
 | k::l=>(match t.get k with | some v=>v.under c | none=>true)&&BL c t l
structure bP where
 slot:List (Nat×Option AV)
 upd:List (Nat×Option aZ)
 vis:Option (List Nat)
 loc:List Nat
 base:Nat
 next:Nat
 fin:Option ah:=none
inductive Cls where
 | na (vis:List Nat)
 | wr (w:List Nat)
 | sa (w:List Nat)
 | ca
def ajq:AV→List Nat
 | .p id _=>[id]
 | .sl id _ _ _=>[id]
 | .mp id=>[id]
 | .sv id _=>[id]
 | .pv id _ _=>[id]
 | .pd id _=>[id]
 | _=>[]
def qK (ev:Operand→Option AV) (x:Operand):List Nat:=match ev x with | some a=>ajq a | none=>[]
def XU (o:Oper) (ev:Operand→Option AV):Cls:=
 match o.op with
 | .load _ a=>.na (qK ev a)
 | .indexAddr _ x _=>.na (qK ev x)
 | .store _ a _=>.wr (qK ev a)
 | .box .. | .buildSlice .. | .makeSlice .. | .makeMap ..=>.sa []
 | .convert _ _ x=>.sa (qK ev x)
 | .slice _ x _ _ _=>.na (qK ev x)
 | .lookup _ m _ _=>.na (qK ev m)
 | .mapUpdate _ m _ _ | .insert _ m _ _=>.wr (qK ev m)
 | .range _ x=>.sa (qK ev x)
 | .next it _=>.wr (qK ev it)
 | .call c=>match c.callee with
   | .builtin .len=>.na (c.args.toList.flatMap (qK ev))
   | .builtin .append | .builtin .copy | .builtin .clear=>.sa (c.args.toList.flatMap (qK ev))
   | .builtin .unsafeSliceData=>.na (c.args.toList.flatMap (qK ev))
   | .builtin .unsafeString=>.wr (c.args.toList.flatMap (qK ev))
   | .builtin _=>.na []
   | _=>.ca
 | _=>.na []
def nY:Nat:=2 ^ 64
def lZ (o:Oper) (v:Option AV):List (Nat×Option AV):=match o.dst with | some d=>[(d,v)] | none=>[]
def yt (τ:ah):Nat→Nat→List (Nat×Option aZ)
 | _,0=>[]
 | c,n+1=>(c,match τ.get c with | some o=>if o.own then some o else none | none=>none)::yt τ (c+1) n
def keysOf {α:Type} (l:List (Nat×Option α)):List Nat:=l.map (·.1)
def wW (M:List Nat) (i:Nat):List bP→Nat→List Nat
 | [],_=>[]
 | r::rs,j=>if qW M i j then keysOf r.upd++wW M i rs (j+1) else wW M i rs (j+1)
def Fv (M:List Nat) (i:Nat):List bP→Nat→List Nat
 | [],_=>[]
 | r::rs,j=>if qW M i j then Fv M i rs (j+1) else keysOf r.upd++Fv M i rs (j+1)
def Aw (h:Tr aZ) (lock:Nat) (l:List Nat):List Nat:=l.filter fun k=>Nat.ble lock k&&(match h.get k with | some o=>o.own | none=>false)
mutual
def Eh:AV→List Nat
 | .p id _ | .sl id _ _ _ | .mp id | .sv id _ | .pv id _ _ | .pd id _=>[id]
 | .fn _ fs cs=>BK fs++BK cs
 | .dD _ v=>Eh v
 | .agg l=>BK l
 | .bV l=>BK l
 | _=>[]
def BK:List AV→List Nat
 | []=>[]
 | a::l=>Eh a++BK l
end
def akS:aZ→List Nat
 | .cells l _ _ _=>BK l
 | .map es=>es.flatMap fun e=>Eh e.1++Eh e.2
 | .iterM (some m)=>[m]
 | _=>[]
def RS (h:Tr aZ):Nat→List Nat→List Nat→List Nat
 | 0,_,seen=>seen
 | _+1,[],seen=>seen
 | f+1,k::todo,seen=>bif seen.contains k then RS h f todo seen else RS h f ((match h.get k with | some o=>akS o | none=>[])++todo) (k::seen)
def FX (o:Oper) (ev:Operand→Option AV) (h:Tr aZ):List Nat:=
 RS h 1000 (o.op.operands.toList.flatMap fun x=>match ev x with | some v=>Eh v | none=>[]) []
def akG (ops:Array Oper) (j:Nat):Bool:=match ops[j]? with
 | some o=>match o.op with
   | .buildSlice .. | .makeSlice .. | .makeMap ..=>true
   | _=>false
 | none=>false
def ajH (ops:Array Oper) (M:List Nat) (i:Nat):Bool:=(List.range ops.size).any fun j=>Nat.blt i j&&akG ops j&&qW M i j
def aeI {α:Type} (b:Bool) (x:Unit→Option α):Option α:=bif b then none else x ()
theorem aqX {α:Type} {b:Bool} {x:Unit→Option α} {y:α} (h:aeI b x=some y):x ()=some y:=by
 cases b with
 | true=>cases h
 | false=>exact h
def uH (P:Program) (call:Caller) (ops:Array Oper) (M:List Nat) (N0 lock gn n:Nat) (prev:List bP) (i:Nat) (t:Tr AV) (h:Tr aZ) (c:Nat):Option bP:=
 match ops[i]? with
 | none=>none
 | some o=>
   let a:aY:={ t:=iM t (o.looksAt ops),n:=n,gn:=gn }
   match Bq o ops a with
   | none=>none
   | some false=>some { slot:=lZ o (some (.bV [])),upd:=[],vis:=some [],loc:=[],base:=c,next:=c }
   | some true=>
     match o.op with
     | .alloc ty=>match rV P ty with
       | some z=>some { slot:=lZ o (some (.p (N0+i) 0)),upd:=[(N0+i,some (.cells z ty true false))],vis:=some [],loc:=[],base:=c,next:=c }
       | none=>none
     | _=>
       match XU o a.eval with
       | .na l=>
         match sH P call o a.eval { h:=iM h l,next:=nY,lock:=nY } with
         | some (v,τ)=>if Nat.beq τ.next nY then some { slot:=lZ o v,upd:=[],vis:=some l,loc:=[],base:=c,next:=c } else none
         | none=>none
       | .wr l=>
         match sH P call o a.eval { h:=iM h l,next:=nY,lock:=lock } with
         | some (v,τ)=>if Nat.beq τ.next nY then some { slot:=lZ o v,upd:=(Aw h lock l).map fun k=>(k,τ.get k),vis:=some l,loc:=[],base:=c,next:=c } else none
         | none=>none
       | .sa l=>
         if BL c t (o.looksAt ops)&&Ei c h l then
          match sH P call o a.eval { h:=iM h l,next:=c,lock:=lock } with
          | some (v,τ)=>some { slot:=lZ o v,upd:=((Aw h lock l).map fun k=>(k,τ.get k))++yt τ c (τ.next - c),vis:=some l,loc:=[],base:=c,next:=τ.next }
          | none=>none
         else none
       | .ca=>
         match aeI (ajH ops M i) (fun _=>sH P call o a.eval { h:=yg h (wW M i prev 0),next:=c,lock:=c }) with
         | some (v,τ)=>some { slot:=lZ o v,upd:=yt τ c (τ.next - c),vis:=none,loc:=Fv M i prev 0,base:=c,next:=τ.next }
         | none=>
           if BL c t (o.looksAt ops)&&Ei c h (FX o a.eval h) then
            match sH P call o a.eval { h:=iM h (FX o a.eval h),next:=c,lock:=lock } with
            | some (v,τ)=>some { slot:=lZ o v,upd:=((Aw h lock (FX o a.eval h)).map fun k=>(k,τ.get k))++yt τ c (τ.next - c),vis:=some (FX o a.eval h),loc:=[],base:=c,next:=τ.next }
            | none=>none
           else none
def vY (o:Oper):Bool:=match o.op with
 | .move _ | .assign _ | .binOp .. | .extract ..=>true
 | _=>false
def jI (ops:Array Oper) (i:Nat):Bool:=match ops[i]? with | some o=>vY o | none=>false
def MN (ops:Array Oper) (M:List Nat):Nat→Nat
 | 0=>0
 | k+1=>if (jI ops k || (List.range k).all fun j=>jI ops j || oz M j k)=true then MN ops M k else k+1
def jL (ops:Array Oper) (M:List Nat) (i:Nat):Bool:=Nat.ble (MN ops M ops.size) i&&!(jI ops i)
def pz:List bP→ah→ah
 | [],σ=>σ
 | r::rs,σ=>pz rs (match r.fin with | some τ=>τ | none=>σ)
def Ci (P:Program) (call:Caller) (ops:Array Oper) (lock gn n:Nat) (prev:List bP) (i:Nat) (t:Tr AV) (h:Tr aZ) (c:Nat):Option bP:=
 match ops[i]? with
 | none=>none
 | some o=>
   match Bq o ops { t:=iM t (o.looksAt ops),n:=n,gn:=gn } with
   | none=>none
   | some false=>some { slot:=lZ o (some (.bV [])),upd:=[],vis:=some [],loc:=[],base:=c,next:=c,fin:=some (pz prev { h:=h,next:=c,lock:=lock }) }
   | some true=>match sH P call o (aY.eval { t:=iM t (o.looksAt ops),n:=n,gn:=gn }) (pz prev { h:=h,next:=c,lock:=lock }) with
     | some (v,τ)=>some { slot:=lZ o v,upd:=[],vis:=some [],loc:=[],base:=c,next:=c,fin:=some τ }
     | none=>none
def qI (P:Program) (call:Caller) (ops:Array Oper) (M:List Nat) (N0 lock gn n:Nat) (prev:List bP) (i:Nat) (t:Tr AV) (h:Tr aZ) (c:Nat):Option bP:=
 if jL ops M i=true then Ci P call ops lock gn n prev i t h c else uH P call ops M N0 lock gn n prev i t h c
def EJ (P:Program) (call:Caller) (ops:Array Oper) (M:List Nat) (N0 lock gn n:Nat):Nat→List bP→Nat→Tr AV→Tr aZ→Nat→Option (List bP×Tr AV×Tr aZ×Nat)
 | 0,prev,_,t,h,c=>some (prev,t,h,c)
 | m+1,prev,i,t,h,c=>
   match qI P call ops M N0 lock gn n prev i t h c with
   | none=>none
   | some r=>EJ P call ops M N0 lock gn n m (prev++[r]) (i+1) (xO r.slot t) (xO r.upd h) r.next
def lH (l m:List Nat):Bool:=l.all fun k=>!(m.contains k)
def FQ (ops:Array Oper) (N0:Nat) (i j:Nat) (r s:bP):Bool:=
 let keys:=keysOf s.upd
 lH (keysOf r.slot) (keysOf s.slot)&&
 (match ops[i]? with | some o=>lH (o.looksAt ops) (keysOf s.slot) | none=>false)&&
 lH (keysOf r.upd) keys&&
 (match r.vis with
  | some l=>lH l keys
  | none=>Nat.blt j i || (keys.all (Nat.ble N0 ·)&&lH r.loc keys&&Nat.beq s.base s.next))
def aeh (ops:Array Oper) (i j:Nat):Bool:=
 match ops[i]?,ops[j]? with
 | some o,some o'=>
   match o'.dst with
   | none=>true
   | some d'=>(match o.dst with | some d=>!(Nat.beq d d') | none=>true)&&!((o.looksAt ops).contains d')
 | _,_=>false
def SS (ops:Array Oper) (M:List Nat):Bool:=
 (List.range ops.size).all fun i=>(List.range ops.size).all fun j=>!(qW M i j) || aeh ops i j
def Ii (N0 i j:Nat) (r s:bP):Bool:=
 lH (keysOf r.upd) (keysOf s.upd)&&
 (match r.vis with
  | some l=>lH l (keysOf s.upd)
  | none=>Nat.blt j i || ((keysOf s.upd).all (Nat.ble N0 ·)&&lH r.loc (keysOf s.upd)&&Nat.beq s.base s.next))
def OA (M:List Nat) (N0:Nat) (rs:List bP):Bool:=
 rs.zipIdx.all fun (s,j)=>(s.upd.isEmpty&&Nat.beq s.base s.next) || rs.zipIdx.all fun (r,i)=>!(qW M i j) || Ii N0 i j r s
theorem aae (l:List Nat):lH l []=true:=by
 unfold lH;simp
theorem alh {ops:Array Oper} {M:List Nat} {N0:Nat} {rs:List bP} (hst:SS ops M=true) (hdy:OA M N0 rs=true) (Fa:∀ (i:Nat) r,rs[i]? = some r→∃o v,ops[i]? = some o∧r.slot=lZ o v) :
 ∀ (i j:Nat) r s,rs[i]? = some r→rs[j]? = some s→qW M i j=true→FQ ops N0 i j r s=true:=by
 intro i j r s hr hs hu
 obtain ⟨o,v,ho,hrs⟩:=Fa i r hr
 obtain ⟨o',v',ho',hss⟩:=Fa j s hs
 have hil:i < ops.size:=(Array.getElem?_eq_some_iff.1 ho).1
 have hjl:j < ops.size:=(Array.getElem?_eq_some_iff.1 ho').1
 unfold SS at hst
 rw [List.all_eq_true] at hst
 have h1:=hst i (by simpa using hil)
 rw [List.all_eq_true] at h1
 have h2:=h1 j (by simpa using hjl)
 rw [hu] at h2
 simp only [Bool.not_true,Bool.false_or,aeh,ho,ho'] at h2
 have h3:Ii N0 i j r s=true:=by
  unfold OA at hdy
  rw [List.all_eq_true] at hdy
  have h4:=hdy (s,j) (by rw [List.mem_zipIdx_iff_getElem?];simpa using hs)
  simp only [Bool.or_eq_true,Bool.and_eq_true] at h4
  rcases h4 with ⟨h5,h6⟩ | h4
  ·have h7:s.upd=[]:=by simpa using h5
   unfold Ii
   rw [h7]
   simp only [keysOf,List.map_nil,aae,List.all_nil,h6,Bool.and_self,Bool.or_true]
   cases r.vis<;>rfl
  ·rw [List.all_eq_true] at h4
   have h5:=h4 (r,i) (by rw [List.mem_zipIdx_iff_getElem?];simpa using hr)
   simp only [hu,Bool.not_true,Bool.false_or] at h5
   exact h5
 unfold Ii at h3
 rw [Bool.and_eq_true] at h3
 unfold FQ
 rw [ho]
 simp only [hrs,hss,h3.1,h3.2,Bool.and_true]
 unfold lZ
 cases hd':o'.dst with
 | none=>simp [keysOf,aae]
 | some d'=>
   rw [hd'] at h2
   simp only [Bool.and_eq_true] at h2
   rw [Bool.and_eq_true]
   constructor
   ·cases hd:o.dst with
    | none=>simp [keysOf,lH]
    | some d=>
      rw [hd] at h2
      have:=h2.1
      simp only [keysOf,List.map_cons,List.map_nil,lH,List.all_cons,List.all_nil,Bool.and_true,Bool.not_eq_true'] at this ⊢
      rw [List.contains_cons]
      simp only [List.contains_nil,Bool.or_false]
      cases hb:d==d' with
      | false=>rfl
      | true=>
        have e:=eq_of_beq hb
        subst e
        simp at this
   ·have:=h2.2
    simp only [keysOf,List.map_cons,List.map_nil,lH,List.all_eq_true,Bool.not_eq_true'] at this ⊢
    intro k hk
    rw [List.contains_cons]
    simp only [List.contains_nil,Bool.or_false]
    cases hb:k==d' with
    | false=>rfl
    | true=>
      have e:=eq_of_beq hb
      subst e
      rw [List.contains_iff_mem.2 hk] at this
      cases this
def aec (n:Nat) (rs:List bP):Bool:=rs.all fun r=>Nat.ble r.base r.next&&r.slot.all fun p=>Nat.blt p.1 n
def GL (P:Program) (call:Caller) (ops:Array Oper) (a:aY) (σ:ah):Option (aY×ah):=
 let M:=jl ops.toList []
 let N0:=σ.next
 if FB M 0&&Nat.ble σ.lock σ.next then
  match EJ P call ops M N0 σ.lock a.gn a.n ops.size [] 0 a.t σ.h (N0+ops.size) with
  | some (rs,t,h,c)=>
    if SS ops M&&OA M N0 rs&&aec a.n rs&&Nat.ble c nY then
     some ({ a with t:=t },pz rs { h:=h,next:=c,lock:=σ.lock })
    else none
  | none=>none
 else none
end
end Go.aP
namespace Go.aP
noncomputable section
variable [aC]
set_option linter.unusedSectionVars false
set_option linter.unusedVariables false
set_option linter.unusedSimpArgs false
theorem yH {a b:Nat} (h:a≠b):Nat.beq a b=false:=by
 cases e:Nat.beq a b with
 | false=>rfl
 | true=>exact absurd (Nat.eq_of_beq_eq_true e) h
section
variable {α:Type}
def dL:List (Nat×Option α)→Nat→Option (Option α)
 | [],_=>none
 | (k,v)::l,b=>match dL l b with
   | some x=>some x
   | none=>if b=k then some v else none
theorem O3:∀ (l:List (Nat×Option α)) (t:Tr α) (b:Nat),(xO l t).get b=(dL l b).getD (t.get b)
 | [],t,b=>rfl
 | (k,v)::l,t,b=>by
   rw [xO,O3 l,dL]
   cases dL l b with
   | some x=>rfl
   | none=>
     simp only [Option.getD_none,Tr.qg]
     split<;>rfl
theorem rH:∀ (l:List (Nat×Option α)) (b:Nat),dL l b≠none↔b∈keysOf l
 | [],b=>by simp [dL,keysOf]
 | (k,v)::l,b=>by
   have ih:=rH l b
   simp only [keysOf,List.map_cons,List.mem_cons] at ih ⊢
   rw [dL]
   cases h:dL l b with
   | some x=>rw [h] at ih;simp only [ne_eq,reduceCtorEq,not_false_eq_true,true_iff] at ih;simp [ih]
   | none=>
     rw [h] at ih
     simp only [ne_eq,not_true_eq_false,false_iff] at ih
     simp only [ih,or_false]
     split<;>simp_all
theorem Fz {l:List (Nat×Option α)} {b:Nat} (h:b∉keysOf l):dL l b=none:=by
 cases h':dL l b with
 | none=>rfl
 | some x=>exact absurd ((rH l b).1 (by rw [h'];simp)) h
def iV:List (List (Nat×Option α))→Nat→(Nat→Bool)→Nat→Option (Option α)
 | [],_,_,_=>none
 | u::us,k,D,b=>match iV us (k+1) D b with
   | some x=>some x
   | none=>if D k=true then dL u b else none
def iw:List (List (Nat×Option α))→Nat→(Nat→Bool)→Tr α→Tr α
 | [],_,_,t=>t
 | u::us,k,D,t=>iw us (k+1) D (if D k=true then xO u t else t)
theorem wB:∀ (us:List (List (Nat×Option α))) (k:Nat) (D:Nat→Bool) (t:Tr α) (b:Nat),(iw us k D t).get b=(iV us k D b).getD (t.get b)
 | [],_,_,_,_=>rfl
 | u::us,k,D,t,b=>by
   rw [iw,wB us,iV]
   cases iV us (k+1) D b with
   | some x=>rfl
   | none=>
     simp only [Option.getD_none]
     split
     ·rw [O3]
     ·rfl
def fZ:List (List (Nat×Option α))→Tr α→Tr α
 | [],t=>t
 | u::us,t=>fZ us (xO u t)
theorem Df:∀ (us:List (List (Nat×Option α))) (k:Nat) (D E:Nat→Bool) (b:Nat),(∀ (j:Nat) u,us[j]? = some u→D (k+j)≠E (k+j)→dL u b=none)→iV us k D b=iV us k E b
 | [],_,_,_,_,_=>rfl
 | u::us,k,D,E,b,h=>by
   have ih:=Df us (k+1) D E b (fun j v hj hne=>h (j+1) v (by simpa using hj) (by rw [show k+(j+1)=k+1+j by omega];exact hne))
   have h0:=h 0 u (by simp)
   rw [iV,iV,ih]
   cases iV us (k+1) E b with
   | some x=>rfl
   | none=>
     simp only [Nat.add_zero] at h0
     by_cases e:D k=E k
     ·rw [e]
     ·rw [h0 e];simp
theorem ajG (us:List (List (Nat×Option α))) (k:Nat) (D:Nat→Bool) (b:Nat) (h:∀j,j < us.length→D (k+j)=false):iV us k D b=none:=by
 induction us generalizing k with
 | nil=>rfl
 | cons u us ih=>
   rw [iV,ih (k+1) (fun j hj=>by rw [show k+1+j=k+(j+1) by omega];exact h (j+1) (by simpa using hj))]
   have:=h 0 (by simp)
   simp only [Nat.add_zero] at this
   simp [this]
theorem Qo:∀ (us:List (List (Nat×Option α))) (k:Nat) (D:Nat→Bool) (b:Nat) (x:Option α),iV us k D b=some x→∃ (j:Nat) (u:List (Nat×Option α)),us[j]? = some u∧D (k+j)=true∧dL u b=some x
 | [],_,_,_,_,h=>by simp [iV] at h
 | u::us,k,D,b,x,h=>by
   rw [iV] at h
   split at h
   ·next y hy=>
    cases h
    obtain ⟨j,v,h1,h2,h3⟩:=Qo us (k+1) D b _ hy
    exact ⟨j+1,v,by simpa using h1,by rw [show k+(j+1)=k+1+j by omega];exact h2,h3⟩
   ·split at h
    ·next hd=>exact ⟨0,u,by simp,by simpa using hd,h⟩
    ·cases h
theorem CV:∀ (us:List (List (Nat×Option α))) (i k:Nat) (t:Tr α) (b:Nat),(fZ (us.take i) t).get b=(iV us k (fun j=>decide (j < k+i)) b).getD (t.get b)
 | [],i,k,t,b=>by simp [fZ,iV]
 | u::us,0,k,t,b=>by
   rw [ajG _ _ _ _ (fun j _=>by simp)];rfl
 | u::us,i+1,k,t,b=>by
   have ih:=CV us i (k+1) (xO u t) b
   simp only [List.take_succ_cons,fZ]
   rw [ih,iV]
   have:(fun j=>decide (j < k+1+i))=fun j=>decide (j < k+(i+1)):=by funext j;congr 1;apply propext;omega
   rw [this]
   cases iV us (k+1) (fun j=>decide (j < k+(i+1))) b with
   | some x=>rfl
   | none=>
     simp only [Option.getD_none]
     rw [if_pos (by simp),O3]
theorem Qn:∀ (us:List (List (Nat×Option α))) (k i:Nat) (D:Nat→Bool) (b:Nat) (u:List (Nat×Option α)),us[i]? = some u→D (k+i)=false→
 (∀ (j:Nat) v,us[j]? = some v→i < j→D (k+j)=true→dL u b≠none→dL v b=none)→
 iV us k (fun j=>D j || Nat.beq j (k+i)) b=match dL u b with | some x=>some x | none=>iV us k D b
 | [],_,_,_,_,_,h,_,_=>by simp at h
 | v::us,k,0,D,b,u,h,hD,hdis=>by
   simp at h;subst h
   have tail:iV us (k+1) (fun j=>D j || Nat.beq j (k+0)) b=iV us (k+1) D b:=by
    refine Df _ _ _ _ _ fun j w hj hne=>?_
    exfalso;apply hne
    have:Nat.beq (k+1+j) (k+0)=false:=yH (by omega)
    simp only [this,Bool.or_false]
   simp only [iV,tail]
   simp only [Nat.add_zero] at hD ⊢
   have hb:Nat.beq k k=true:=by simp
   cases hl:dL v b with
   | none=>simp [hb,hD,hl]
   | some x=>
     have:iV us (k+1) D b=none:=by
      cases ht:iV us (k+1) D b with
      | none=>rfl
      | some y=>
        obtain ⟨j,w,h1,h2,h3⟩:=Qo _ _ _ _ _ ht
        have:=hdis (j+1) w (by simpa using h1) (by omega) (by rw [show k+(j+1)=k+1+j by omega];exact h2) (by rw [hl];simp)
        rw [this] at h3;cases h3
     simp [this,hb,hl]
 | v::us,k,i+1,D,b,u,h,hD,hdis=>by
   have ih:=Qn us (k+1) i D b u (by simpa using h) (by rw [show k+1+i=k+(i+1) by omega];exact hD) (fun j w hj hij wC=>hdis (j+1) w (by simpa using hj) (by omega) (by rw [show k+(j+1)=k+1+j by omega];exact wC))
   have e:(fun j=>D j || Nat.beq j (k+1+i))=fun j=>D j || Nat.beq j (k+(i+1)):=by funext j;congr 2;omega
   rw [e] at ih
   simp only [iV,ih]
   have hk:Nat.beq k (k+(i+1))=false:=yH (by omega)
   cases hl:dL u b with
   | some x=>simp
   | none=>simp [hk]
theorem uN (t:Tr α):∀ (l:List Nat) (b:Nat),(iM t l).get b=if b∈l then t.get b else none
 | [],b=>by simp [iM]
 | k::l,b=>by
   rw [iM,Tr.qg,uN t l]
   by_cases e:b=k
   ·subst e;simp
   ·simp [e]
theorem aa4:∀ (l:List Nat) (t:Tr α) (b:Nat),(yg t l).get b=if b∈l then none else t.get b
 | [],t,b=>by simp [yg]
 | k::l,t,b=>by
   rw [yg,aa4 l,Tr.qg]
   by_cases e:b=k
   ·subst e;simp
   ·simp [e]
end
theorem QA {get:Nat→Nat} {j:Nat}:∀ {es:List Edge},(sW get es).testBit j=true→∃e∈es,Region.binds .any e=true∧(j=e.on∨(get e.on).testBit j=true)
 | [],h=>by simp [sW] at h
 | e::es,h=>by
   rw [sW] at h
   split at h
   ·next hb=>
    rw [Nat.testBit_or,Nat.testBit_or,Bool.or_eq_true,Bool.or_eq_true,Nat.testBit_two_pow] at h
    rcases h with (h | h) | h
    ·exact ⟨e,by simp,hb,.inl (of_decide_eq_true h).symm⟩
    ·exact ⟨e,by simp,hb,.inr h⟩
    ·obtain ⟨e',h1,h2,h3⟩:=QA h
     exact ⟨e',by simp [h1],h2,h3⟩
   ·obtain ⟨e',h1,h2,h3⟩:=QA h
    exact ⟨e',by simp [h1],h2,h3⟩
theorem acj:∀ (os:List Oper) (acc:List Nat),(jl os acc).length=acc.length+os.length∧(∀k,k < acc.length→(jl os acc)[k]? = acc[k]?)∧
 ∀ (k:Nat) o,os[k]? = some o→(jl os acc)[acc.length+k]? = some (sW (fun j=>((jl os acc).take (acc.length+k)).getD j 0) o.after.toList)
 | [],acc=>by simp [jl]
 | o::os,acc=>by
   obtain ⟨h1,h2,h3⟩:=acj os (acc++[sW (fun k=>acc.getD k 0) o.after.toList])
   rw [jl]
   simp only [List.length_append,List.length_cons,List.length_nil] at h1 h2 h3
   refine ⟨by simp only [List.length_cons];omega,fun k hk=>?_,fun k o' ho=>?_⟩
   ·rw [h2 k (by omega),List.getElem?_append_left hk]
   ·cases k with
    | zero=>
      simp at ho;subst ho
      rw [Nat.add_zero,h2 acc.length (by omega),List.getElem?_append_right (Nat.le_refl _)]
      simp only [Nat.sub_self,List.getElem?_cons_zero]
      congr 2
      funext j
      by_cases hj:j < acc.length
      ·rw [List.getD_eq_getElem?_getD,List.getD_eq_getElem?_getD,List.getElem?_take,if_pos hj,h2 j (by omega),List.getElem?_append_left hj]
      ·rw [List.getD_eq_getElem?_getD,List.getD_eq_getElem?_getD,List.getElem?_take,if_neg hj,List.getElem?_eq_none (by omega)]
    | succ k=>
      have:=h3 k o' (by simpa using ho)
      rw [show acc.length+1+k=acc.length+(k+1) by omega] at this
      exact this
theorem acn:∀ (M:List Nat) (k:Nat),FB M k=true→∀ (j m:Nat),M[j]? = some m→m < 2 ^ (k+j)
 | [],_,_,j,m,h=>by simp at h
 | x::M,k,h,j,m,hj=>by
   simp only [FB,Bool.and_eq_true] at h
   cases j with
   | zero=>simp at hj;subst hj;have h':=h.1;rw [Nat.blt_eq] at h';simpa using h'
   | succ j=>
     have:=acn M (k+1) h.2 j m (by simpa using hj)
     rw [show k+(j+1)=k+1+j by omega];exact this
end
end Go.aP
namespace Go.aP
noncomputable section
variable [aC]
set_option linter.unusedSectionVars false
set_option linter.unusedVariables false
set_option linter.unusedSimpArgs false
variable {P:Program}
theorem Ny {η:Env} {τ τ':ah} {w:World} (h:SR P η τ w) {call:Caller} (hcall:l9 P call) {o:Oper} {a:aY} {A:Act} (ht:TR P η a A) {r:Option AV} {K:Act→World→Prop} {Q:Exit→Act→World→Prop}
 (hs:oK P call o a.eval τ=some (r,τ')) (hK:∀x η' w',St P η τ w η' τ' w'→(∀v,r=some v→VR η' v x)→K (A.put o.dst x) w'):o.wp P A w K Q:=by
 cases hc:yx o.op with
 | true=>
   refine XE h hcall ht hc hs fun v x η' w' hr hst hv=>hK x η' w' hst fun u hu=>by rw [hr] at hu;cases hu;exact hv
 | false=>
   obtain ⟨nx,w',η',hrun,hst,hres⟩:=acL h (fun x v hv=>EO h ht x v hv) hc hs
   unfold Oper.wp
   rw [hrun]
   cases r with
   | none=>subst hres;exact hK undef η' w' hst (by simp)
   | some v=>
     obtain ⟨x,rfl,hv⟩:=hres
     exact hK x η' w' hst (fun u hu=>by cases hu;exact hv)
def Env.cut (η:Env) (c:Nat):Env:=⟨fun id=>if id < c then η id else none,η.ro,fun id=>decide (id < c)&&η.gh id⟩
theorem Env.Ce (η:Env) (c:Nat):(η.cut c).le η:=⟨fun id q h=>(by
 simp only [Env.cut] at h;split at h
 ·exact h
 ·cases h),fun _ _ h=>h,fun _ h=>(Bool.and_eq_true _ _ ▸ h:_∧_).2⟩
theorem Env.YL {η:Env} {c id:Nat} (h:id < c) (hg:η.gh id=true):(η.cut c).gh id=true:=by simp [Env.cut,h,hg]
mutual
theorem VR.cut {η:Env} {c:Nat}:∀ (a:AV) (v:Value),a.under c=true→VR η a v→VR (η.cut c) a v
 | .b _,_,_,hv=>by simpa only [VR] using hv
 | .i _ _,_,_,hv=>by simpa only [VR] using hv
 | .s _,_,_,hv=>by simpa only [VR] using hv
 | .iC,_,_,hv=>by simpa only [VR] using hv
 | .p id _,_,hu,hv=>by
   simp only [VR] at hv ⊢;obtain ⟨q,hq,e⟩:=hv
   simp only [AV.under,Nat.blt_eq] at hu
   exact ⟨q,by simp only [Env.cut];rw [if_pos hu];exact hq,e⟩
 | .dM,_,_,hv=>by simpa only [VR] using hv
 | .sl id _ _ _,_,hu,hv=>by
   simp only [VR] at hv ⊢;obtain ⟨q,hq,e⟩:=hv
   simp only [AV.under,Nat.blt_eq] at hu
   exact ⟨q,by simp only [Env.cut];rw [if_pos hu];exact hq,e⟩
 | .lQ,_,_,hv=>by simpa only [VR] using hv
 | .mp id,_,hu,hv=>by
   simp only [VR] at hv ⊢;obtain ⟨q,hq,e⟩:=hv
   simp only [AV.under,Nat.blt_eq] at hu
   exact ⟨q,by simp only [Env.cut];rw [if_pos hu];exact hq,e⟩
 | .sZ,_,_,hv=>by simpa only [VR] using hv
 | .fn _ fi cs,_,hu,hv=>by
   simp only [VR] at hv ⊢
   simp only [AV.under,Bool.and_eq_true] at hu
   obtain ⟨us,vs,e,h1,h2⟩:=hv
   exact ⟨us,vs,e,aj.cut fi us hu.1 h1,aj.cut cs vs hu.2 h2⟩
 | .nO,_,_,hv=>by simpa only [VR] using hv
 | .dD _ a,_,hu,hv=>by simp only [VR] at hv ⊢;simp only [AV.under] at hu;obtain ⟨x,e,h1⟩:=hv;exact ⟨x,e,VR.cut a x hu h1⟩
 | .agg l,_,hu,hv=>by simp only [VR] at hv ⊢;simp only [AV.under] at hu;obtain ⟨x,e,h1⟩:=hv;exact ⟨x,e,aj.cut l x hu h1⟩
 | .bV l,_,hu,hv=>by simp only [VR] at hv ⊢;simp only [AV.under] at hu;obtain ⟨x,e,h1⟩:=hv;exact ⟨x,e,aj.cut l x hu h1⟩
 | .z _ _ _,_,_,hv=>by simpa only [VR] using hv
 | .ro l,_,hu,hv=>by
   simp only [VR] at hv ⊢
   simp only [AV.under] at hu
   rcases hv with hv | ⟨bl,off,cp,xs,sz,e,hc,h1,h2,h3⟩
   ·exact .inl hv
   right
   exact ⟨bl,off,cp,xs,sz,e,hc,aj.cut l xs hu h1,h2,h3⟩
 | .rp a _,_,hu,hv=>by
   simp only [VR] at hv ⊢
   simp only [AV.under] at hu
   obtain ⟨bl,base,cs,elem,fr,x,h1,h2,h3⟩:=hv
   exact ⟨bl,base,cs,elem,fr,x,h1,VR.cut a x hu h2,h3⟩
 | .nd _,_,_,hv=>by simp only [VR] at hv ⊢;exact hv
 | .rx _ _,_,_,hv=>by simp only [VR] at hv ⊢;exact hv
 | .sv id _,_,hu,hv=>by
   simp only [VR] at hv ⊢
   simp only [AV.under,Nat.blt_eq] at hu
   obtain ⟨xs,h1,⟨q,hq,h2⟩ | h2⟩:=hv
   ·exact ⟨xs,h1,.inl ⟨q,by simp only [Env.cut];rw [if_pos hu];exact hq,h2⟩⟩
   ·exact ⟨xs,h1,.inr ⟨Env.YL hu h2.1,h2.2⟩⟩
 | .pv id _ _,_,hu,hv=>by
   simp only [VR] at hv ⊢
   simp only [AV.under,Nat.blt_eq] at hu
   obtain ⟨q,k,i,hq,h2⟩:=hv
   exact ⟨q,k,i,by simp only [Env.cut];rw [if_pos hu];exact hq,h2⟩
 | .pd id _,_,hu,hv=>by
   simp only [VR] at hv ⊢
   simp only [AV.under,Nat.blt_eq] at hu
   obtain ⟨xs,p,h1,h2,h3⟩:=hv
   exact ⟨xs,p,h1,h2,fun hn=>by obtain ⟨q,hq,h4⟩:=h3 hn;exact ⟨q,by simp only [Env.cut];rw [if_pos hu];exact hq,h4⟩⟩
theorem aj.cut {η:Env} {c:Nat}:∀ (l:List AV) (vs:List Value),AV.lD c l=true→aj η l vs→aj (η.cut c) l vs
 | [],_,_,hv=>by simpa only [aj] using hv
 | a::l,_,hu,hv=>by
   simp only [aj] at hv ⊢
   simp only [AV.lD,Bool.and_eq_true] at hu
   obtain ⟨x,xs,e,h1,h2⟩:=hv
   exact ⟨x,xs,e,VR.cut a x hu.1 h1,aj.cut l xs hu.2 h2⟩
end
theorem aeH {c:Nat}:∀ {l:List AV} {k:Nat} {a:AV},AV.lD c l=true→l[k]? = some a→a.under c=true
 | [],k,a,_,h=>by simp at h
 | x::l,k,a,hu,h=>by
   simp only [AV.lD,Bool.and_eq_true] at hu
   cases k with
   | zero=>simp at h;subst h;exact hu.1
   | succ k=>exact aeH hu.2 (by simpa using h)
theorem OR.cut {η:Env} {c:Nat} {q:Place} {w:World} {o:aZ} (hu:vK c o=true) (h:OR P η q w o):OR P (η.cut c) q w o:=by
 cases o with
 | cells l et rw opn=>
   obtain ⟨cs,elem,fr,h1,r⟩:=h
   exact ⟨cs,elem,fr,h1, { r with cell:=fun k a hk=>by obtain ⟨x,hx,hv⟩:=r.cell k a hk;exact ⟨x,hx,VR.cut a x (aeH hu hk) hv⟩ }⟩
 | iter s pos=>exact h
 | map es=>
   obtain ⟨ms,clock,h1,h2,h3⟩:=h
   refine ⟨ms,clock,h1,h2,fun k e hk=>?_⟩
   obtain ⟨m,hm,ha,hb⟩:=h3 k e hk
   simp only [vK,List.all_eq_true,Bool.and_eq_true] at hu
   have:=hu e (List.mem_of_getElem? hk)
   exact ⟨m,hm,VR.cut _ _ this.1 ha,VR.cut _ _ this.2 hb⟩
 | iterM m=>
   cases m with
   | none=>exact h
   | some m=>
     obtain ⟨h0,since,last,q',h1,h2⟩:=h
     simp only [vK,Nat.blt_eq] at hu
     exact ⟨h0,since,last,q',by simp only [Env.cut];rw [if_pos hu];exact h1,h2⟩
 | smap n kk sz=>exact h
 | vec n et f=>
   obtain ⟨xs,cs,elem,fr,ys,h1,h2,h3,h4,h5,h6,r,h8⟩:=h
   exact ⟨xs,cs,elem,fr,ys,h1,h2,h3,h4,h5,h6, { r with cell:=fun k a hk=>by simp at hk },h8⟩
theorem St.merge {η ηi mZ η':Env} {σ σ' τ τ':ah} {w w':World} {upd:List (Nat×Option aZ)} (hS:SR P η σ w) (IZ:SR P ηi τ w) (hst:St P ηi τ w mZ τ' w') (sub:∀id o,τ.get id=some o→σ.get id=some o) (hi:ηi.le η) (hro:ηi.ro=η.ro) (I7:η'.ro=mZ.ro)
 (h1:η.le η') (h2:mZ.le η') (hg:∀b,σ'.get b=(dL upd b).getD (σ.get b))
 (hu:∀b o,dL upd b=some (some o)→τ'.get b=some o∧((∃o0,τ.get b=some o0∧o0.own=true)∨(o.own=true∧τ.get b=none)))
 (DT:∀id o,τ.get id=some o→o.own=true→τ.lock≤id→dL upd id≠none) (hlk:σ.lock≤τ.lock) (C9:∀b,dL upd b≠none→τ.lock≤b)
 (hnx:∀id q,η' id=some q→id < σ'.next) (hgh:∀id,η'.gh id=true→η' id=none∧id < σ'.next) :
 SR P η' σ' w'∧w.heap.size≤w'.heap.size∧
 (∀bl,bl < w.heap.size→(∀id o q,σ.get id=some o→o.own=true→σ.lock≤id→η id=some q→q.bl≠bl)→w'.heap[bl]? = w.heap[bl]?)∧
 (∀id o q,σ'.get id=some o→o.own=true→σ.lock≤id→η' id=some q→w.heap.size≤q.bl∨∃bW o0 q0,σ.get bW=some o0∧o0.own=true∧σ.lock≤bW∧η bW=some q0∧q0.bl=q.bl)∧
 (∀b,η'.ro b≠none→η.ro b≠none∨w.heap.size≤b∨∃bW o0 q0,σ.get bW=some o0∧o0.own=true∧σ.lock≤bW∧η bW=some q0∧q0.bl=b):=by
 have stays:∀b o q,dL upd b=none→σ.get b=some o→η b=some q→q.bl < w.heap.size→w'.heap[q.bl]? = w.heap[q.bl]?:=by
  intro b o q hb ho hq hlt
  refine hst.keep _ hlt ?_
  intro id o2 q2 a1 a2 a3 a4
  have hne:id≠b:=fun e=>DT id o2 a1 a2 a3 (by rw [e];exact hb)
  exact hS.sep id o2 b o q2 q (sub _ _ a1) a2 ho hne (hi.pl _ _ a4) hq
 have place:∀b o q,dL upd b=some (some o)→η' b=some q→OR P η' q w' o∧mZ b=some q:=by
  intro b o q hb hq'
  rcases hst.rel.live b o (hu b o hb).1 with ⟨p,hp,hr⟩ | ⟨hgb,_⟩
  ·have:=h2.pl _ _ hp
   rw [hq'] at this;cases this
   exact ⟨hr.mono h2,hp⟩
  ·rw [(hgh b (h2.gh b hgb)).1] at hq';cases hq'
 have old:∀id o q,σ.get id=some o→η' id=some q→η id=some q∧OR P η q w o:=by
  intro id o q ho hq'
  rcases hS.live id o ho with ⟨p,hp,hr⟩ | ⟨hgb,_⟩
  ·have:=h1.pl _ _ hp
   rw [hq'] at this;cases this
   exact ⟨hp,hr⟩
  ·rw [(hgh id (h1.gh id hgb)).1] at hq';cases hq'
 have TM:∀b o q,dL upd b=some (some o)→mZ b=some q→(w.heap.size≤q.bl)∨(∃bW o0 q0,τ.get bW=some o0∧o0.own=true∧τ.lock≤bW∧ηi bW=some q0∧q0.bl=q.bl):=by
  intro b o q hb hq
  obtain ⟨h4,h5⟩:=hu b o hb
  rcases h5 with ⟨o0,h6,h7⟩ | ⟨h6,h7⟩
  ·rcases IZ.live b o0 h6 with ⟨p',hp',_⟩ | ⟨hgb,_⟩
   ·have:=hst.ext.pl _ _ hp'
    rw [hq] at this;cases this
    exact .inr ⟨b,o0,q,h6,h7,C9 b (by rw [hb];simp),hp',rfl⟩
   ·rw [(hst.rel.gW b (hst.ext.gh b hgb)).1] at hq;cases hq
  ·rcases hst.own b o q h4 h6 (C9 b (by rw [hb];simp)) hq with h8 | h8
   ·exact .inl h8
   ·exact .inr h8
 have Ey:∀id o,σ'.get id=some o→(dL upd id=some (some o))∨(dL upd id=none∧σ.get id=some o):=by
  intro id o ho
  rw [hg] at ho
  cases hl:dL upd id with
  | none=>rw [hl] at ho;exact .inr ⟨rfl,ho⟩
  | some x=>rw [hl] at ho;simp only [Option.getD_some] at ho;subst ho;exact .inl rfl
 refine ⟨⟨?_,hnx, ?_,hgh, ?_,fun b o hb=>hst.rel.fP b o (by rw [← I7];exact hb), ?_,fun p hp=>(hS.tabs p hp).mono h1⟩,hst.size, ?_, ?_, ?_⟩
 ·intro g hgg;obtain ⟨sz,es,h5⟩:=hS.jr g hgg;exact ⟨sz,es,h1.pl _ _ h5⟩
 ·intro id o ho
  rcases Ey id o ho with h4 | ⟨h4,h5⟩
  ·exact (hst.rel.live id o (hu id o h4).1).mono h2
  ·exact ((hS.live id o h5).heap (w:=w) fun q hq hr=>stays id o q h4 h5 hq hr.lt).mono h1
 ·intro id o id' o' q q' a1 a2 a3 a4 a5 a6
  rcases Ey id o a1 with b1 | ⟨b1,b1'⟩<;>rcases Ey id' o' a3 with b2 | ⟨b2,b2'⟩
  ·obtain ⟨_,c2⟩:=place id o q b1 a5
   obtain ⟨_,c4⟩:=place id' o' q' b2 a6
   exact hst.rel.sep id o id' o' _ _ (hu _ _ b1).1 a2 (hu _ _ b2).1 a4 c2 c4
  ·obtain ⟨_,c2⟩:=place id o q b1 a5
   obtain ⟨d1,d2⟩:=old id' o' q' b2' a6
   rcases TM id o q b1 c2 with e | ⟨bW,o0,q0,e1,e2,e3,e4,e5⟩
   ·have:=d2.lt;omega
   ·rw [← e5]
    exact hS.sep bW o0 id' o' q0 q' (sub _ _ e1) e2 b2' (fun e=>DT bW o0 e1 e2 e3 (by rw [e];exact b2)) (hi.pl _ _ e4) d1
  ·obtain ⟨_,c4⟩:=place id' o' q' b2 a6
   obtain ⟨d1,d2⟩:=old id o q b1' a5
   rcases TM id' o' q' b2 c4 with e | ⟨bW,o0,q0,e1,e2,e3,e4,e5⟩
   ·have:=d2.lt;omega
   ·rw [← e5]
    exact hS.sep id o bW o0 q q0 b1' a2 (sub _ _ e1) (fun e=>DT bW o0 e1 e2 e3 (by rw [← e];exact b1)) d1 (hi.pl _ _ e4)
  ·exact hS.sep id o id' o' _ _ b1' a2 b2' a4 (old id o q b1' a5).1 (old id' o' q' b2' a6).1
 ·intro id o q a1 a2 a3
  rcases Ey id o a1 with b1 | ⟨b1,b1'⟩
  ·obtain ⟨_,c2⟩:=place id o q b1 a3
   rw [I7]
   exact hst.rel.iW id o q (hu _ _ b1).1 a2 c2
  ·obtain ⟨d1,d2⟩:=old id o q b1' a3
   cases hr:η'.ro q.bl with
   | none=>rfl
   | some o2=>
     exfalso
     rcases hst.lU q.bl (by rw [← I7,hr];simp) with e | e | ⟨bW,o0,q0,e1,e2,e3,e4,e5⟩
     ·rw [hro,hS.iW id o q b1' a2 d1] at e;exact e rfl
     ·have:=d2.lt;omega
     ·exact hS.sep bW o0 id o q0 q (sub _ _ e1) e2 b1' (fun e=>DT bW o0 e1 e2 e3 (by rw [e];exact b1)) (hi.pl _ _ e4) d1 e5
 ·intro bl hbl hno
  exact hst.keep bl hbl fun id o q a1 a2 a3 a4=>hno id o q (sub _ _ a1) a2 (Nat.le_trans hlk a3) (hi.pl _ _ a4)
 ·intro id o q a1 a2 a3 a4
  rcases Ey id o a1 with b1 | ⟨b1,b1'⟩
  ·obtain ⟨_,c2⟩:=place id o q b1 a4
   rcases TM id o q b1 c2 with e | ⟨bW,o0,q0,e1,e2,e3,e4,e5⟩
   ·exact .inl e
   ·exact .inr ⟨bW,o0,q0,sub _ _ e1,e2,Nat.le_trans hlk e3,hi.pl _ _ e4,e5⟩
  ·obtain ⟨d1,_⟩:=old id o q b1' a4
   exact .inr ⟨id,o,q,b1',a2,a3,d1,rfl⟩
 ·intro b hb
  rcases hst.lU b (by rw [← I7];exact hb) with e | e | ⟨bW,o0,q0,e1,e2,e3,e4,e5⟩
  ·rw [hro] at e;exact .inl e
  ·exact .inr (.inl e)
  ·exact .inr (.inr ⟨bW,o0,q0,sub _ _ e1,e2,Nat.le_trans hlk e3,hi.pl _ _ e4,e5⟩)
theorem St.then {η0 η η':Env} {σ0 σ σ':ah} {w0 w w':World} (h:St P η0 σ0 w0 η σ w) (hle:η.le η') (rel:SR P η' σ' w') (size:w.heap.size≤w'.heap.size)
 (keep:∀bl,bl < w.heap.size→(∀id o q,σ.get id=some o→o.own=true→σ.lock≤id→η id=some q→q.bl≠bl)→w'.heap[bl]? = w.heap[bl]?)
 (own:∀id o q,σ'.get id=some o→o.own=true→σ.lock≤id→η' id=some q→w.heap.size≤q.bl∨∃bW o0 q0,σ.get bW=some o0∧o0.own=true∧σ.lock≤bW∧η bW=some q0∧q0.bl=q.bl)
 (os:w'.os=w.os) (tape:w'.tape=w.tape) (output:w'.output=w.output) (lock:σ'.lock=σ.lock) (next:σ.next≤σ'.next)
 (new:∀id,η'.has id→η.has id∨(σ0.next≤id∧id < σ'.next))
 (lU:∀b,η'.ro b≠none→η.ro b≠none∨w.heap.size≤b∨∃bW o0 q0,σ.get bW=some o0∧o0.own=true∧σ.lock≤bW∧η bW=some q0∧q0.bl=b):St P η0 σ0 w0 η' σ' w':=by
 refine ⟨h.ext.trans hle,rel,Nat.le_trans h.size size, ?_, ?_,os.trans h.os,tape.trans h.tape,output.trans h.output,lock.trans h.lock,Nat.le_trans h.next next, ?_, ?_⟩
 ·intro bl hbl hno
  rw [keep bl (Nat.lt_of_lt_of_le hbl h.size) ?_,h.keep bl hbl hno]
  intro id o q h1 h2 h3 h4
  rcases h.own id o q h1 h2 (h.lock ▸ h3) h4 with h5 | ⟨bW,o0,q0,a,b,c,d,e⟩
  ·omega
  ·rw [← e];exact hno bW o0 q0 a b c d
 ·intro id o q h1 h2 h3 h4
  rcases own id o q h1 h2 (by rw [h.lock];exact h3) h4 with h5 | ⟨bW,o0,q0,a,b,c,d,e⟩
  ·exact .inl (Nat.le_trans h.size h5)
  ·rcases h.own bW o0 q0 a b (h.lock ▸ c) d with h6 | ⟨id1,o1,q1,a1,b1,c1,d1,e1⟩
   ·left;omega
   ·exact .inr ⟨id1,o1,q1,a1,b1,c1,d1,e1.trans e⟩
 ·intro id hq
  rcases new id hq with h1 | h1
  ·rcases h.new id h1 with h3 | ⟨h3,h4⟩
   ·exact .inl h3
   ·exact .inr ⟨h3,Nat.lt_of_lt_of_le h4 next⟩
  ·exact .inr h1
 ·intro b hb
  rcases lU b hb with h1 | h1 | ⟨bW,o0,q0,a1,b1,c1,d1,e1⟩
  ·exact h.lU b h1
  ·exact .inr (.inl (Nat.le_trans h.size h1))
  ·rcases h.own bW o0 q0 a1 b1 (h.lock ▸ c1) d1 with h2 | ⟨id2,o2,q2,a2,b2,c2,d2,e2⟩
   ·right;left;omega
   ·exact .inr (.inr ⟨id2,o2,q2,a2,b2,c2,d2,e2.trans e1⟩)
end
end Go.aP
namespace Go.aP
noncomputable section
variable [aC]
set_option linter.unusedSectionVars false
set_option linter.unusedVariables false
set_option linter.unusedSimpArgs false
variable {P:Program}
def iH (rs:List bP):List (List (Nat×Option AV)):=rs.map (·.slot)
def eH (rs:List bP):List (List (Nat×Option aZ)):=rs.map (·.upd)
def gB:Nat→List bP→Nat→Nat
 | c,_,0=>c
 | c,[],_=>c
 | _,r::rs,k+1=>gB r.next rs k
theorem aac {call:Caller} {ops:Array Oper} {M:List Nat} {N0 lock gn n:Nat}:∀ (m:Nat) (prev:List bP) (i:Nat) (t:Tr AV) (h:Tr aZ) (c:Nat) (rs:List bP) (t':Tr AV) (h':Tr aZ) (c':Nat),
 EJ P call ops M N0 lock gn n m prev i t h c=some (rs,t',h',c')→∃new,rs=prev++new∧new.length=m∧t'=fZ (iH new) t∧h'=fZ (eH new) h∧c'=gB c new m∧
  ∀ (k:Nat) r,new[k]? = some r→qI P call ops M N0 lock gn n (prev++new.take k) (i+k) (fZ ((iH new).take k) t) (fZ ((eH new).take k) h) (gB c new k)=some r
 | 0,prev,i,t,h,c,rs,t',h',c',hs=>by
   simp only [EJ,Option.some.injEq,Prod.mk.injEq] at hs
   obtain ⟨rfl,rfl,rfl,rfl⟩:=hs
   exact ⟨[],by simp,rfl,rfl,rfl,rfl,by simp⟩
 | m+1,prev,i,t,h,c,rs,t',h',c',hs=>by
   unfold EJ at hs
   split at hs
   ·cases hs
   ·next r hr=>
    obtain ⟨new,h1,h2,h3,h4,h5,h6⟩:=aac m _ _ _ _ _ _ _ _ _ hs
    refine ⟨r::new,by rw [h1];simp,by simp [h2], ?_, ?_, ?_, ?_⟩
    ·rw [h3];rfl
    ·rw [h4];rfl
    ·rw [h5];rfl
    ·intro k s hk
     cases k with
     | zero=>
       simp at hk;subst hk
       simpa [fZ,iH,eH,gB] using hr
     | succ k=>
       have:=h6 k s (by simpa using hk)
       rw [show i+1+k=i+(k+1) by omega] at this
       simp only [List.append_assoc,List.singleton_append] at this
       simpa [iH,eH,fZ,gB] using this
theorem agW {call:Caller} {ops:Array Oper} {M:List Nat} {N0 lock gn n i c:Nat} {prev:List bP} {t:Tr AV} {h:Tr aZ} {r:bP} (hs:uH P call ops M N0 lock gn n prev i t h c=some r):r.base=c:=by
 unfold uH at hs
 split at hs
 ·cases hs
 ·simp only at hs
  split at hs
  ·cases hs
  ·cases hs;rfl
  ·split at hs
   ·split at hs
    ·cases hs;rfl
    ·cases hs
   ·split at hs
    ·split at hs
     ·split at hs
      ·cases hs;rfl
      ·cases hs
     ·cases hs
    ·split at hs
     ·split at hs
      ·cases hs;rfl
      ·cases hs
     ·cases hs
    ·split at hs
     ·split at hs
      ·cases hs;rfl
      ·cases hs
     ·cases hs
    ·split at hs
     ·cases hs;rfl
     ·split at hs
      ·split at hs
       ·cases hs;rfl
       ·cases hs
      ·cases hs
theorem agX {call:Caller} {ops:Array Oper} {M:List Nat} {N0 lock gn n i c:Nat} {prev:List bP} {t:Tr AV} {h:Tr aZ} {r:bP} (hs:uH P call ops M N0 lock gn n prev i t h c=some r):∃o v,ops[i]? = some o∧r.slot=lZ o v:=by
 unfold uH at hs
 split at hs
 ·cases hs
 ·next o ho=>
  simp only at hs
  split at hs
  ·cases hs
  ·cases hs;exact ⟨o,_,ho,rfl⟩
  ·split at hs
   ·split at hs
    ·cases hs;exact ⟨o,_,ho,rfl⟩
    ·cases hs
   ·split at hs
    ·split at hs
     ·split at hs
      ·cases hs;exact ⟨o,_,ho,rfl⟩
      ·cases hs
     ·cases hs
    ·split at hs
     ·split at hs
      ·cases hs;exact ⟨o,_,ho,rfl⟩
      ·cases hs
     ·cases hs
    ·split at hs
     ·split at hs
      ·cases hs;exact ⟨o,_,ho,rfl⟩
      ·cases hs
     ·cases hs
    ·split at hs
     ·cases hs;exact ⟨o,_,ho,rfl⟩
     ·split at hs
      ·split at hs
       ·cases hs;exact ⟨o,_,ho,rfl⟩
       ·cases hs
      ·cases hs
theorem agZ {call:Caller} {ops:Array Oper} {M:List Nat} {N0 lock gn n i c:Nat} {prev:List bP} {t:Tr AV} {h:Tr aZ} {r:bP} (hs:uH P call ops M N0 lock gn n prev i t h c=some r):r.fin=none:=by
 unfold uH at hs
 split at hs
 ·cases hs
 ·simp only at hs
  split at hs
  ·cases hs
  ·cases hs;rfl
  ·split at hs
   ·split at hs
    ·cases hs;rfl
    ·cases hs
   ·split at hs
    ·split at hs
     ·split at hs
      ·cases hs;rfl
      ·cases hs
     ·cases hs
    ·split at hs
     ·split at hs
      ·cases hs;rfl
      ·cases hs
     ·cases hs
    ·split at hs
     ·split at hs
      ·cases hs;rfl
      ·cases hs
     ·cases hs
    ·split at hs
     ·cases hs;rfl
     ·split at hs
      ·split at hs
       ·cases hs;rfl
       ·cases hs
      ·cases hs
theorem agY {call:Caller} {ops:Array Oper} {M:List Nat} {N0 lock gn n i c:Nat} {prev:List bP} {t:Tr AV} {h:Tr aZ} {r:bP} (hs:qI P call ops M N0 lock gn n prev i t h c=some r):r.base=c:=by
 unfold qI at hs
 split at hs
 ·unfold Ci at hs
  split at hs
  ·cases hs
  ·split at hs
   ·cases hs
   ·cases hs;rfl
   ·split at hs
    ·cases hs;rfl
    ·cases hs
 ·exact agW hs
theorem ag0 {call:Caller} {ops:Array Oper} {M:List Nat} {N0 lock gn n i c:Nat} {prev:List bP} {t:Tr AV} {h:Tr aZ} {r:bP} (hs:qI P call ops M N0 lock gn n prev i t h c=some r):∃o v,ops[i]? = some o∧r.slot=lZ o v:=by
 unfold qI at hs
 split at hs
 ·unfold Ci at hs
  split at hs
  ·cases hs
  ·next o ho=>
   split at hs
   ·cases hs
   ·cases hs;exact ⟨o,_,ho,rfl⟩
   ·split at hs
    ·cases hs;exact ⟨o,_,ho,rfl⟩
    ·cases hs
 ·exact agX hs
structure mg (ops:Array Oper) (M:List Nat) (rs:List bP) (n N0:Nat):Prop where
 hM:M=jl ops.toList []
 mok:FB M 0=true
 len:rs.length=ops.size
 pairs:∀ (i j:Nat) r s,rs[i]? = some r→rs[j]? = some s→qW M i j=true→FQ ops N0 i j r s=true
 slot:∀ (i:Nat) r,rs[i]? = some r→r.base≤r.next∧∀p∈r.slot,p.1 < n
structure Ctx (P:Program) (call:Caller) (ops:Array Oper) (M:List Nat) (rs:List bP) (a0:aY) (σ0:ah) (cf:Nat):Prop extends mg ops M rs a0.n σ0.next where
 one:∀ (i:Nat) r,rs[i]? = some r→qI P call ops M σ0.next σ0.lock a0.gn a0.n (rs.take i) i (fZ ((iH rs).take i) a0.t) (fZ ((eH rs).take i) σ0.h) (gB (σ0.next+ops.size) rs i)=some r
 fin:cf=gB (σ0.next+ops.size) rs ops.size
 big:cf≤nY
 lock:σ0.lock≤σ0.next
section
variable {call:Caller} {ops:Array Oper} {M:List Nat} {rs:List bP} {a0:aY} {σ0:ah} {cf nn N0:Nat}
theorem Eu:∀ (rs:List bP) (c k:Nat) (r:bP),rs[k]? = some r→gB c rs (k+1)=r.next
 | [],c,k,r,h=>by simp at h
 | s::rs,c,0,r,h=>by simp at h;subst h;cases rs<;>rfl
 | s::rs,c,k+1,r,h=>by
   show gB s.next rs (k+1)=r.next
   exact Eu rs s.next k r (by simpa using h)
theorem Ctx.base (C:Ctx P call ops M rs a0 σ0 cf) {i:Nat} {r:bP} (h:rs[i]? = some r):r.base=gB (σ0.next+ops.size) rs i:=agY (C.one i r h)
theorem Ctx.mono (C:Ctx P call ops M rs a0 σ0 cf):∀ (k i:Nat),i+k≤rs.length→gB (σ0.next+ops.size) rs i≤gB (σ0.next+ops.size) rs (i+k)
 | 0,i,_=>Nat.le_refl _
 | k+1,i,h=>by
   have ih:=C.mono k i (by omega)
   have hlt:i+k < rs.length:=by omega
   have hr:rs[i+k]? = some rs[i+k]:=List.getElem?_eq_getElem hlt
   have:=(C.slot _ _ hr).1
   rw [C.base hr] at this
   rw [show i+(k+1)=(i+k)+1 by omega,Eu rs _ _ _ hr]
   omega
theorem Ctx.lt (C:Ctx P call ops M rs a0 σ0 cf) {i j:Nat} {r s:bP} (hi:rs[i]? = some r) (hj:rs[j]? = some s) (h:i < j):r.next≤s.base:=by
 have hjl:=(List.getElem?_eq_some_iff.1 hj).1
 have:=C.mono (j - (i+1)) (i+1) (by omega)
 rw [Eu rs _ _ _ hi,show i+1+(j - (i+1))=j by omega] at this
 rw [C.base hj];exact this
theorem Ctx.lo (C:Ctx P call ops M rs a0 σ0 cf) {i:Nat} {r:bP} (hi:rs[i]? = some r):σ0.next+ops.size≤r.base:=by
 have:=C.mono i 0 (by have:=(List.getElem?_eq_some_iff.1 hi).1;omega)
 rw [C.base hi]
 simpa [gB] using this
theorem Ctx.hi (C:Ctx P call ops M rs a0 σ0 cf) {i:Nat} {r:bP} (hi:rs[i]? = some r):r.next≤cf:=by
 have hil:=(List.getElem?_eq_some_iff.1 hi).1
 have:=C.mono (ops.size - (i+1)) (i+1) (by have:=C.len;omega)
 rw [Eu rs _ _ _ hi,show i+1+(ops.size - (i+1))=ops.size by have:=C.len;omega] at this
 rw [C.fin];exact this
theorem Ctx.Oi (C:Ctx P call ops M rs a0 σ0 cf):σ0.next+ops.size≤cf:=by
 have:=C.mono ops.size 0 (by have:=C.len;omega)
 rw [C.fin];simpa [gB] using this
theorem mg.mask (C:mg ops M rs nn N0) {i:Nat} {o:Oper} (ho:ops[i]? = some o):M[i]? = some (sW (fun j=>(M.take i).getD j 0) o.after.toList)∧M.length=ops.size:=by
 obtain ⟨h1,_,h3⟩:=acj ops.toList []
 have:=h3 i o (by simpa using ho)
 simp only [List.length_nil,Nat.zero_add] at this h1
 rw [C.hM]
 exact ⟨this,by simpa using h1⟩
def Closed (ops:Array Oper) (D:Nat→Bool):Prop:=∀i o,D i=true→ops[i]? = some o→∀e∈o.after.toList,Region.binds .any e=true→D e.on=true
theorem mg.mD (C:mg ops M rs nn N0) {D:Nat→Bool} (hD:Closed ops D):∀ (i:Nat) (o:Oper),ops[i]? = some o→(∀e∈o.after.toList,Region.binds .any e=true→D e.on=true)→∀j,oz M j i=true→D j=true:=by
 intro i
 induction i using Nat.strongRecOn with
 | _ i ih=>
   intro o ho fA j hj
   obtain ⟨hm,hl⟩:=C.mask ho
   unfold oz at hj
   rw [List.getD_eq_getElem?_getD,hm] at hj
   obtain ⟨e,he,hb,h1⟩:=QA hj
   have hDe:=fA e he hb
   rcases h1 with rfl | h1
   ·exact hDe
   ·rw [List.getD_eq_getElem?_getD,List.getElem?_take] at h1
    split at h1
    ·next hlt=>
     by_cases hin:e.on < ops.size
     ·have hoe:ops[e.on]? = some ops[e.on]:=by simp [hin]
      refine ih e.on hlt ops[e.on] hoe (fun e' he' hb'=>hD e.on _ hDe hoe e' he' hb') j ?_
      unfold oz
      rw [List.getD_eq_getElem?_getD];exact h1
     ·rw [List.getElem?_eq_none (by omega)] at h1
      simp at h1
    ·simp at h1
theorem mg.QV (C:mg ops M rs nn N0) {i j:Nat} (h:oz M j i=true):j < i:=by
 unfold oz at h
 rw [List.getD_eq_getElem?_getD] at h
 cases hm:M[i]? with
 | none=>rw [hm] at h;simp at h
 | some m=>
   rw [hm] at h
   have hlt:=acn M 0 C.mok i m hm
   simp only [Nat.zero_add,Option.getD_some] at hlt h
   exact Nat.lt_of_not_le fun hle=>by
    have:=Nat.testBit_lt_two_pow (Nat.lt_of_lt_of_le hlt (Nat.pow_le_pow_right (by omega) hle))
    rw [this] at h;cases h
theorem mg.open_ (C:mg ops M rs nn N0) {D:Nat→Bool} (hD:Closed ops D) {i j:Nat} {o:Oper} (ho:ops[i]? = some o) (hi:D i=false) (fA:∀e∈o.after.toList,Region.binds .any e=true→D e.on=true)
 (hj:j < ops.size) (hne:D j≠decide (j < i)):qW M i j=true:=by
 have hij:i≠j:=by rintro rfl;rw [hi] at hne;simp at hne
 have h1:oz M j i=false:=by
  cases h:oz M j i with
  | false=>rfl
  | true=>
    have h2:=C.mD hD i o ho fA j h
    have h3:=C.QV h
    rw [h2] at hne;simp [h3] at hne
 have h2:oz M i j=false:=by
  cases h:oz M i j with
  | false=>rfl
  | true=>
    have h3:=C.QV h
    have h4:D j=true:=by
     cases wC:D j with
     | true=>rfl
     | false=>rw [wC] at hne;simp at hne;omega
    have hoj:ops[j]? = some ops[j]:=by simp [hj]
    have:=C.mD hD j _ hoj (fun e he hb=>hD j _ h4 hoj e he hb) i h
    rw [this] at hi;cases hi
 unfold qW
 rw [yH hij,h1,h2];rfl
theorem EN {l m:List Nat} (h:lH l m=true) {b:Nat} (hb:b∈l):b∉m:=by
 unfold lH at h
 rw [List.all_eq_true] at h
 have:=h b hb
 simpa using this
end
end
end Go.aP
