/- Functions without a Go body: what the model does at them, for the evaluator. -/
import Derived.Test.YtilkjidelblkfaaGreatDoorAbsG
import Derived.Laws.Externs
import Derived.Lib.LaidU8
import Derived.ChangeSame
namespace Go.aJ
set_option linter.unusedSimpArgs false
noncomputable section
variable [aG]
set_option linter.unusedSectionVars false
set_option linter.unusedVariables false
variable {P:Program} {η:Env} {σ σ':au} {w:World}
abbrev dR:=List AV->au->Option (AV×au)
def dS (P:Program) (f:FuncId) (g:dR):Prop:=∀args σ r σ',g args σ=some (r,σ')->∀η w vs,SR P η σ w->aA η args vs->
 kE P f ⟨vs⟩ w λv w'=>∃η',St P η σ w η' σ' w'/\VR η' r v
def Nc:List (FuncId×dR)->Tr dR
 | []=>.nil
 | (k,g)::l=>(Nc l).set k (some g)
def X3 (l:List (FuncId×dR)):vM:=(Nc l).get
theorem afR:∀ {l:List (FuncId×dR)} {f:FuncId} {g:dR},(Nc l).get f=some g->(f,g)∈l
 | [],f,g,h=>by simp [Nc] at h
 | (k,u)::l,f,g,h=>by
   rw [Nc,Tr.uM] at h;split at h
   ·next e=>cases h;subst e;simp
   ·exact zX _ (afR h)
theorem aeH {l:List (FuncId×dR)} (h:∀p∈l,dS P p.1 p.2):NU P (X3 l):=λf g hg=>h (f,g) (afR hg)
structure Ext (P:Program) (f:FuncId) (e:Array Value->Sem Value):Prop where
 call:∀args w,(callFunc f args).run P w=((e args).run P w).andThen λv w'=>.ok (.value v) w'
theorem Ext.mk' {f:FuncId} {fn:Func} {e:Array Value->Sem Value} (hf:P.funcs[f]? = some fn) (hname:(fn.name == "runtime.NumGoroutine")=false)
 (hb:fn.body.isNone=true) (hn:Extern.findNext fn=none) (he:Extern.find fn=some e):Ext P f e:=⟨λargs w=>run_callFunc_extern hf hname hb hn he args w⟩
theorem Ext.Es {f:FuncId} {e:Array Value->Sem Value} (h:Ext P f e) {args:Array Value} {R:Value->World->Prop} (hr:∃v w',(e args).run P w=.ok v w'/\R v w'):kE P f args w R:=by
 obtain ⟨v,w',h1,h2⟩:=hr;exact .inl ⟨v,w',by rw [h.call,h1];rfl,h2⟩
def Md:dR:=λl σ=>match l with | [x]=>some (x,σ) | _=>none
theorem ad7 {f:FuncId} (h:Ext P f Extern.AbiNoEscape.same):dS P f Md:=by
 intro args σ r σ' hs η w vs hS hv;unfold Md at hs;split at hs
 ·cases hs
  simp only [aA] at hv;obtain ⟨x,_,rfl,hx,rfl⟩:=hv;exact h.Es ⟨x,w,rfl,η,St.refl hS,hx⟩
 ·cases hs
def UE (a b:List UInt8):Int:=Extern.BytealgCompare.cmp ⟨⟨a⟩⟩ ⟨⟨b⟩⟩
def Xi:dR:=λl σ=>match l with | [.s a,.s b]=>some (.i .i64 (UE a b),σ) | _=>none
theorem aoq {f:FuncId} (h:Ext P f Extern.BytealgCompare.compare):dS P f Xi:=by
 intro args σ r σ' hs η w vs hS hv;unfold Xi at hs;split at hs
 ·cases hs
  simp only [aA,VR] at hv;obtain ⟨x,_,rfl,rfl,y,_,rfl,rfl,rfl⟩:=hv;refine h.Es ⟨_,w,rfl,η,St.refl hS,by simp only [VR];rfl⟩
 ·cases hs
def Xg:dR:=λl σ=>match l with
 | [.i .u64 x,.i .u64 y,.i .u64 c]=>if 0<=x/\0<=y/\0<=c/\c<=1 then some (.bY [.i .u64 ((x+y+c) % 18446744073709551616),.i .u64 ((x+y+c) / 18446744073709551616)],σ) else none
 | _=>none
theorem aom {f:FuncId} (h:Ext P f add64Entry):dS P f Xg:=by
 intro args σ r σ' hs η w vs hS hv;unfold Xg at hs;split at hs
 ·next x y c=>
  split at hs
  ·next hc=>
   cases hs;obtain ⟨h1,h2,h3,h4⟩:=hc;simp only [aA,VR] at hv;obtain ⟨_,_,rfl,rfl,_,_,rfl,rfl,_,_,rfl,rfl,rfl⟩:=hv;have hrun:=run_add64 (P:=P) x y c h1 h2 h3 h4 w;refine h.Es ⟨_,w,hrun,η,St.refl hS, ?_⟩;simp only [VR];refine ⟨_,rfl,aA.cons ?_ (aA.cons ?_ (by simp [aA]))⟩<;>simp only [VR]<;>congr 1
  ·cases hs
 ·cases hs
def Xm (P:Program):dR:=λl σ=>match l with
 | [.dY t a]=>match oH P (Extern.Rtype.kind t) with
   | some k=>some (.agg [.p P.globals.size t,.p σ.next 0,.i .u64 ((k+128:Nat):Int)],σ.new (.cells a.cells t true false))
   | none=>none
 | _=>none
theorem ab9 (h:SR P η σ w) (t:TypeId):VR η (.p P.globals.size t) (typeHandle P t):=by
 obtain ⟨sz,es,h1⟩:=h.kY P.globals.size (dH _);simp only [VR];exact ⟨_,h1,by simp [typeHandle]⟩
theorem aou {f:FuncId} (h:Ext P f (λargs=>Extern.ReflectliteValue.unpack (args.getD 0 (.tuple #[])))):dS P f (Xm P):=by
 intro args σ r σ' hs η w vs hS hv;unfold Xm at hs;split at hs
 ·next t a=>
  split at hs
  ·next k hk=>
   cases hs;simp only [aA,VR] at hv;obtain ⟨_,_,rfl,⟨x,rfl,hx⟩,rfl⟩:=hv;obtain ⟨y,w',η',h1,h2,h3⟩:=aat (t:=t) hS hx;simp only [VR] at h3;obtain ⟨q,hq,rfl⟩:=h3;have h1':(newVar t x).run P w=.ok ⟨q.bl,q.ba+0,none⟩ w':=by
    simp only [Instr.box,aO] at h1;cases hn:(newVar t x).run P w with
    | ok ad w2=>rw [hn] at h1;simp only [aN,aZ,Result.ok.injEq,Value.pointer.injEq,aT] at h1;obtain ⟨rfl,rfl⟩:=h1;rfl
    | halt e w2=>rw [hn] at h1;simp at h1
   refine h.Es ⟨.agg #[typeHandle P t,.pointer (some ⟨q.bl,q.ba+0,none⟩),.int .u64 ((k+128:Nat):Int)],w', ?_,η',h2, ?_⟩
   ·show (Extern.ReflectliteValue.unpack (.iface t x)).run P w=_
    simp only [Extern.ReflectliteValue.unpack,Extern.ReflectliteValue.mk,aO,h1',aN,Extern.Rtype.handle,program,Sem.run,aZ,zF hk w'];rfl
   ·simp only [VR]
    exact ⟨_,rfl,aA.cons (by simpa only [VR] using ab9 h2.rel t) (aA.cons (by simp only [VR];exact ⟨q,hq,rfl⟩) (aA.cons (by simp only [VR]) (by simp [aA])))⟩
  ·cases hs
 ·cases hs
def Xj (P:Program):dR:=λl σ=>match l with
 | [.agg [.p g t,.p id off,.i .u64 f]]=>
   if g=P.globals.size/\0 < f/\f.toNat % 32=23 then
    match oH P (Extern.Rtype.noPack "a Value asked or handed on" t),oH P (Extern.Rtype.under t),uq P t σ (.p id off) with
    | some _,some (_,i),some v=>match i.desc with
      | .slice _=>(Oa P σ t v).map λn=>(n,σ)
      | _=>none
    | _,_,_=>none
   else none
 | _=>none
theorem acd (t:TypeId) {id:Nat} {x:Value} (hS:SR P η σ w) (hg:id=P.globals.size) (h:VR η (.p id t) x):x=typeHandle P t:=by
 subst hg;obtain ⟨sz,es,h1⟩:=hS.kY P.globals.size (dH _);simp only [VR] at h;obtain ⟨q,hq,rfl⟩:=h;rw [h1] at hq;cases hq;simp [typeHandle]
theorem WY (t:TypeId):(Extern.Rtype.ofHandle (typeHandle P t)).run P w=.ok t w:=by
 simp [Extern.Rtype.ofHandle,handleType,typeHandle,program,Sem.run]
theorem aor {f:FuncId} (h:Ext P f (Extern.ReflectliteValue.method (Extern.ReflectliteValue.valueError "reflectlite.Value.Len" 0) Extern.ReflectliteValue.len)):dS P f (Xj P):=by
 intro args σ r σ' hs η w vs hS hv;unfold Xj at hs;split at hs
 ·next g t id off fl=>
  split at hs
  ·next hc=>
   obtain ⟨hg,hpos,hk⟩:=hc;split at hs
   ·next u u2 i v h1 h2 h3=>
    split at hs
    ·next e hd=>
     simp only [aX,kH] at hs;obtain ⟨n,hn,rfl,rfl⟩:=hs;simp only [aA] at hv;obtain ⟨_,_,rfl,hx,rfl⟩:=hv;rw [VR] at hx;obtain ⟨ws,rfl,hx⟩:=hx;simp only [aA] at hx;obtain ⟨a1,_,rfl,ha1,a2,_,rfl,ha2,a3,_,rfl,ha3,rfl⟩:=hx;have e1:=acd t hS hg ha1;subst e1;obtain ⟨y,hy,sW⟩:=Dy hS h3 ha2;simp only [VR] at ha2 ha3;obtain ⟨q,hq,rfl⟩:=ha2;subst ha3;obtain ⟨z,hz,uP⟩:=ac1 (ts:=#[t]) (ty:=0) hS rfl hn sW;refine h.Es ⟨z,w, ?_,η,St.refl hS,uP⟩;have hfl:fl≠0:=by omega
     have hparts:(Extern.ReflectliteValue.parts (.agg #[typeHandle P t,.pointer (some ⟨q.bl,q.ba+off,none⟩),.int .u64 fl])).run P w=.ok (some (t,⟨q.bl,q.ba+off,none⟩,fl.toNat)) w:=by
      have hany:(Extern.ReflectliteValue.partsAny (.agg #[typeHandle P t,.pointer (some ⟨q.bl,q.ba+off,none⟩),.int .u64 fl])).run P w=.ok (some (t,⟨q.bl,q.ba+off,none⟩,fl.toNat)) w:=by
       have hd:Extern.ReflectliteValue.partsAny (.agg #[typeHandle P t,.pointer (some ⟨q.bl,q.ba+off,none⟩),.int .u64 fl])=(do pure (some (<- Extern.Rtype.ofHandle (typeHandle P t),⟨q.bl,q.ba+off,none⟩,fl.toNat))):=by
        obtain ⟨m,rfl⟩:∃m:Nat,fl=((m+1:Nat):Int):=⟨fl.toNat - 1,by omega⟩
        rfl
       rw [hd];simp only [aO,WY,aN,aZ]
      unfold Extern.ReflectliteValue.parts;simp only [aO,hany,aN,zF h1 w,aZ]
     have hlen:(Extern.ReflectliteValue.len t ⟨q.bl,q.ba+off,none⟩ fl.toNat (fl.toNat % 32)).run P w=.ok z w:=by
      unfold Extern.ReflectliteValue.len;have hy':(loadVar t ⟨q.bl,q.ba+off,none⟩).run P w=.ok y w:=by simpa [Instr.loadAt,Instr.sureAddr] using hy
      rw [hk];have hcont:(!([17,18,21,23,24]:List Nat).contains 23)=false:=rfl;simp only [hcont,fV,if_false,aO,zF h2 w,aN,hd,hy',hz]
     show (Extern.ReflectliteValue.method _ _ #[_]).run P w=_
     have hm:Extern.ReflectliteValue.method (Extern.ReflectliteValue.valueError "reflectlite.Value.Len" 0) Extern.ReflectliteValue.len #[.agg #[typeHandle P t,.pointer (some ⟨q.bl,q.ba+off,none⟩),.int .u64 fl]]=(do
      match <- Extern.ReflectliteValue.parts (.agg #[typeHandle P t,.pointer (some ⟨q.bl,q.ba+off,none⟩),.int .u64 fl]) with
      | none=>Extern.ReflectliteValue.valueError "reflectlite.Value.Len" 0
      | some (t,a,fl)=>Extern.ReflectliteValue.len t a fl (fl % 32)):=rfl
     rw [hm];simp only [aO,hparts,aN];exact hlen
    ·cases hs
   ·cases hs
  ·cases hs
 ·cases hs
def ac0:AV->Option Nat
 | .bT=>some 0
 | .sl _ _ n _=>some n
 | _=>none
def MX:List (Nat×FuncId)->Nat->Option FuncId
 | [],_=>none
 | (j,f)::l,k=>bif Nat.beq k j then some f else MX l k
theorem afB:∀ {tab:List (Nat×FuncId)} {k:Nat} {f:FuncId},MX tab k=some f->(k,f)∈tab
 | [],k,f,h=>by simp [MX] at h
 | (j,g)::l,k,f,h=>by
   unfold MX at h;cases hb:Nat.beq k j with
   | true=>
     rw [hb] at h;cases h;rw [bf hb];exact List.mem_cons_self
   | false=>
     rw [hb] at h;exact zX _ (afB h)
def ZO (P:Program) (tab:List (Nat×FuncId)):Prop:=∀p∈tab,P.funcs.findIdx? (·.name == "internal/reflectlite" ++ ".Swapper$" ++ toString p.1)=some p.2
def Xl (P:Program) (tab:List (Nat×FuncId)):dR:=λl σ=>match l with
 | [.dY t s]=>
   match oH P (Extern.Rtype.elem? t) with
   | some (some e)=>
     match ac0 s,P.info? e,oH P (Extern.Rtype.kind e) with
     | some n,some i,some kd=>
       let k:Nat:=
        if n==0 then 1 else if n==1 then 2
        else if i.hasPointers&&i.bytes==8 then 3
        else if i.hasPointers&&(kd==24) then 4
        else if i.hasPointers then 9
        else match i.bytes with | 8=>5 | 4=>6 | 2=>7 | 1=>8 | _=>9
       match MX tab k with
       | some f=>some (.fn f [] (if k<=2 then [] else [s,.p P.globals.size e]),σ)
       | none=>none
     | _,_,_=>none
   | _=>none
 | _=>none
theorem ar1 (pkg:String) (noSlice:Nat->Sem Value) (t:TypeId) (s:Value):Extern.ReflectliteSwapper.swapper pkg noSlice #[.iface t s]=(do
 let (.slice _ n _,some e):=(s,<- Extern.Rtype.elem? t) | noSlice (<- Extern.Rtype.kind t)
 let i <- typeInfo e
 let isString:=(<- Extern.Rtype.kind e)==24
 let k:Nat:=
  if n==0 then 1 else if n==1 then 2
  else if i.hasPointers&&i.bytes==8 then 3
  else if i.hasPointers&&isString then 4
  else if i.hasPointers then 9
  else match i.bytes with | 8=>5 | 4=>6 | 2=>7 | 1=>8 | _=>9
 let h <- Extern.Rtype.handle e
 Extern.ReflectliteSwapper.literal pkg k (if k<=2 then #[] else #[s,h])):=rfl
theorem aot {f:FuncId} (h:Ext P f (Extern.ReflectliteSwapper.swapper "internal/reflectlite" (Extern.ReflectliteValue.valueError "Swapper"))) {tab:List (Nat×FuncId)} (htab:ZO P tab):dS P f (Xl P tab):=by
 intro args σ r σ' hs η w vs hS hv;unfold Xl at hs;split at hs
 ·next t s=>
  split at hs
  ·next e he=>
   split at hs
   ·next n i kd hn hi hk=>
    simp only at hs;split at hs
    ·next fi hfi=>
     cases hs;simp only [aA,VR] at hv;obtain ⟨_,_,rfl,⟨x,rfl,hx⟩,rfl⟩:=hv;have hsl:∃a c,x=.slice a n c:=by
      cases s<;>simp [ac0] at hn
      ·subst hn;simp only [VR] at hx;exact ⟨_,_,hx⟩
      ·subst hn;simp only [VR] at hx;obtain ⟨q,_,_,rfl⟩:=hx;exact ⟨_,_,rfl⟩
     obtain ⟨a,c,rfl⟩:=hsl;generalize hkk:(if (n==0)=true then 1 else if (n==1)=true then 2 else if (i.hasPointers&&i.bytes==8)=true then 3 else if (i.hasPointers&&(kd==24))=true then 4 else if i.hasPointers=true then 9 else match i.bytes with | 8=>5 | 4=>6 | 2=>7 | 1=>8 | _=>9:Nat)=k at *;have hfi:=htab _ (afB hfi);refine h.Es ⟨.func (.func fi) #[] (if k<=2 then #[] else #[.slice a n c,typeHandle P e]),w, ?_,η,St.refl hS, ?_⟩
     ·show (Extern.ReflectliteSwapper.swapper "internal/reflectlite" _ #[.iface t (.slice a n c)]).run P w=_
      have hd:=ar1 "internal/reflectlite" (Extern.ReflectliteValue.valueError "Swapper") t (.slice a n c);rw [hd];simp only [aO,zF he w,aN,DN hi,zF hk w,Extern.Rtype.handle,program,Sem.run,aZ,hkk,Extern.ReflectliteSwapper.literal,hfi]
     ·simp only [VR]
      by_cases h2:k<=2
      ·simp only [h2,if_true];exact ⟨[],[],rfl,by simp [aA],by simp [aA]⟩
      ·simp only [h2,if_false];exact ⟨[],[_,_],rfl,by simp [aA],aA.cons hx (aA.cons (ab9 hS e) (by simp [aA]))⟩
    ·cases hs
   ·cases hs
  ·cases hs
 ·cases hs
def Bo (P:Program):dR:=λl σ=>match l with
 | [.i .i64 i,.i .i64 j,.sl id off n cap,.p g e]=>
   if g=P.globals.size/\0<=i/\i < n/\0<=j/\j < n then
    match sizeT P e with
    | some size=>
      match uq P e σ (.p id (off+i.toNat * size)),uq P e σ (.p id (off+j.toNat * size)) with
      | some x,some y=>match CP P e σ (.p id (off+i.toNat * size)) y with
        | some σ1=>match CP P e σ1 (.p id (off+j.toNat * size)) x with
          | some σ2=>some (.bY [],σ2)
          | none=>none
        | none=>none
      | _,_=>none
    | none=>none
   else none
 | _=>none
theorem ac4 {t:TypeId} {b:Bool} {ad:Addr} {y:Value} (h:(Instr.loadAt t (.pointer (some ad))).run P w=.ok y w):(loadVar t ad).run P w=.ok y w:=by
 simpa [Instr.loadAt,Instr.sureAddr] using h
theorem afz {t:TypeId} {ad:Addr} {y:Value} {w':World} (h:(Instr.storeAt t (.pointer (some ad)) y).run P w=.ok () w'):(storeVar t ad y).run P w=.ok () w':=by
 simpa [Instr.storeAt,Instr.sureAddr] using h
theorem FU {f:FuncId} {b:Bool} (h:Ext P f (Extern.ReflectliteSwapper.swap b)):dS P f (Bo P):=by
 intro args σ r σ' hs η w vs hS hv;unfold Bo at hs;split at hs
 ·next i j id off n cap g e=>
  split at hs
  ·next hc=>
   obtain ⟨hg,hi0,hin,hj0,hjn⟩:=hc;split at hs
   ·next size hsz=>
    split at hs
    ·next x y hx hy=>
     split at hs
     ·next σ1 hs1=>
      split at hs
      ·next σ2 hs2=>
       cases hs;simp only [aA] at hv;obtain ⟨v1,_,rfl,h1,v2,_,rfl,h2,v3,_,rfl,h3,v4,_,rfl,h4,rfl⟩:=hv;have e4:=acd e hS hg h4;subst e4;simp only [VR] at h1 h2 h3;subst h1;subst h2;obtain ⟨q,hq,hle,rfl⟩:=h3;have pi:VR η (.p id (off+i.toNat * size)) (.pointer (some ⟨q.bl,q.ba+(off+i.toNat * size),none⟩)):=by simp only [VR];exact ⟨q,hq,rfl⟩
       have pj:VR η (.p id (off+j.toNat * size)) (.pointer (some ⟨q.bl,q.ba+(off+j.toNat * size),none⟩)):=by simp only [VR];exact ⟨q,hq,rfl⟩
       obtain ⟨u,hu,hvu⟩:=Dy hS hx pi;obtain ⟨u',hu',al5⟩:=Dy hS hy pj;obtain ⟨w1,hst1,hS1⟩:=RS hS hs1 pi al5;have pj1:VR η (.p id (off+j.toNat * size)) (.pointer (some ⟨q.bl,q.ba+(off+j.toNat * size),none⟩)):=pj;obtain ⟨w2,hst2,hS2⟩:=RS hS1.rel hs2 pj1 hvu;refine h.Es ⟨.tuple #[],w2, ?_,η,hS1.trans hS2,by simp only [VR];exact ⟨[],rfl,by simp [aA]⟩⟩;have hex:(Extern.ReflectliteSwapper.exchange e ⟨q.bl,q.ba+off,none⟩ i.toNat j.toNat).run P w=.ok (.tuple #[]) w2:=by
        unfold Extern.ReflectliteSwapper.exchange;have a1:=ac4 (b:=true) hu;have a2:=ac4 (b:=true) hu';have a3:=afz hst1;have a4:=afz hst2;simp only [aO,iI hsz,aN,oO,jv,a1,a2,a3,a4,aZ]
       have t1:¬ (i < 0\/i>=n):=by omega
       have t2:¬ (j < 0\/j>=n):=by omega
       show (Extern.ReflectliteSwapper.swap b #[.int .i64 i,.int .i64 j,.slice (some ⟨q.bl,q.ba+off,none⟩) n _,typeHandle P e]).run P w=_
       cases b
       ·have hd:∀c,Extern.ReflectliteSwapper.swap false #[.int .i64 i,.int .i64 j,.slice (some ⟨q.bl,q.ba+off,none⟩) n c,typeHandle P e]=(do
         if i < 0 || i>=n || j < 0 || j>=n then Extern.ReflectliteSwapper.outOfRange
         Extern.ReflectliteSwapper.exchange (<- Extern.Rtype.ofHandle (typeHandle P e)) ⟨q.bl,q.ba+off,none⟩ i.toNat j.toNat):=λ_=>rfl
        rw [hd];have t3:(decide (i < 0) || decide (i>=n) || decide (j < 0) || decide (j>=n))=false:=by simp;omega
        simp only [t3,fV,if_false,aO,WY,aN,hex]
       ·have hd:∀c,Extern.ReflectliteSwapper.swap true #[.int .i64 i,.int .i64 j,.slice (some ⟨q.bl,q.ba+off,none⟩) n c,typeHandle P e]=(do
         if i < 0 || i>=n then boundsPanic .i64 i n .index
         if j < 0 || j>=n then boundsPanic .i64 j n .index
         Extern.ReflectliteSwapper.exchange (<- Extern.Rtype.ofHandle (typeHandle P e)) ⟨q.bl,q.ba+off,none⟩ i.toNat j.toNat):=λ_=>rfl
        rw [hd];have t3:(decide (i < 0) || decide (i>=n))=false:=by simp;omega
        have t4:(decide (j < 0) || decide (j>=n))=false:=by simp;omega
        simp only [t3,t4,fV,if_false,aO,WY,aN,hex]
      ·cases hs
     ·cases hs
    ·cases hs
   ·cases hs
  ·cases hs
 ·cases hs
end
end Go.aJ
namespace Go.aJ
set_option linter.unusedSimpArgs false
noncomputable section
variable [aG]
set_option linter.unusedSectionVars false
set_option linter.unusedVariables false
variable {P:Program}
open Go.Extern.BytealgMakeNoZero
end
end Go.aJ
namespace Go.aJ
set_option linter.unusedSimpArgs false
noncomputable section
variable [aG]
set_option linter.unusedSectionVars false
open Go.ChangeShapes Go.WideShapes
variable {P:Program}
theorem aad {a b:Bool} (ha:a=true) (hb:b=true):(a&&b)=true:=by rw [ha,hb];rfl
structure Kept (W W':World):Prop where
 os:W'.os=W.os
 tape:W'.tape=W.tape
 output:W'.output=W.output
 size:W.heap.size<=W'.heap.size
 keep:∀bl,bl < W.heap.size->W'.heap[bl]? = W.heap[bl]?
theorem Kept.but {W W':World} (h:Kept W W') (m:MemPlace->Prop):W.keptBut W' m:=by
 refine ⟨h.os,h.output,λi hi=>?_⟩;rw [h.keep i hi];cases hw:W.heap[i]? with
 | none=>trivial
 | some o=>cases o<;>first | exact ⟨rfl,rfl,rfl,λ_ _=>rfl⟩ | exact .inr ⟨rfl,rfl⟩ | rfl
theorem Kept.frozen {W W':World} (h:Kept W W') (a:Addr) (ha:a.block < W.heap.size):W'.frozen? a=W.frozen? a:=by
 unfold World.frozen?;rw [h.keep _ ha]
theorem St.kept {η η':Env} {σ σ':au} {w w':World} (h:St P η σ w η' σ' w') (hno:∀id o,σ.get id=some o->o.own=false):Kept w w':=
 ⟨h.os,h.tape,h.output,h.size,λbl hb=>h.keep bl hb λid o q h1 h2 _ _=>by rw [hno id o h1] at h2;cases h2⟩
theorem kE.calls {f:FuncId} {fn:Func} {c:Code} {args:Array Value} {w:World} {R:Value->World->Prop} (hn:uh P) (hf:P.funcs[f]? = some fn) (hc:fn.body=some c)
 (h:kE P f args w R):Calls P f args w λe w'=>∃v,e=.returned v/\R v w':=by
 rcases h with ⟨v,w',h,_⟩ | ⟨_,h⟩
 ·have hname:=hn f fn c hf hc
  simp only [callFunc,aO,program,Sem.run,aN,hf] at h;simp only [hname,fV,if_false,hc,G8,aZ] at h;cases h
 ·exact h
theorem Calls.mono' {f:FuncId} {args:Array Value} {w:World} {R R':Ending->World->Prop} (h:Calls P f args w R) (hR:∀e w',R e w'->R' e w'):Calls P f args w R':=by
 intro cs;obtain ⟨e,w',fr,h1,h2⟩:=h cs;exact ⟨e,w',fr,hR e w' h1,h2⟩
theorem amn {f:FuncId} {fn:Func} {c:Code} {args:List AV} {vs:List Value} {w:World} {η:Env} {σ σ':au} {r:AV} {call:Caller} (hcall:qj P call) (hn:uh P) (hf:P.funcs[f]? = some fn) (hc:fn.body=some c)
 (hrun:call f args σ=some (r,σ')) (hS:SR P η σ w) (hv:aA η args vs) (hno:∀id o,σ.get id=some o->o.own=false) :
 Calls P f ⟨vs⟩ w λe w'=>∃v,e=.returned v/\(∃η',VR η' r v)/\Kept w w':=
 Calls.mono' (kE.calls hn hf hc (hcall f args σ r σ' hrun η w vs hS hv)) λ_ _ ⟨v,he,η',hst,hr⟩=>⟨v,he,⟨η',hr⟩,hst.kept hno⟩
def vV (n:Nat) (σ:au) (ro:Nat->Option Obj:=λ_=>none):Env:=⟨λid=>if id<=n then some ⟨id,0,(match σ.get id with | some (.cells c _ _ _)=>c.length | _=>0),0⟩ else none,ro,λ_=>false⟩
structure TabAt (w:World) (g:Nat) (c:List AV):Prop where
 at':∃cs elem fr,w.heap[g]? = some (.cells cs elem fr)/\c.length<=cs.size/\TV c cs
theorem J3 {σ:au} {w:World} (hn:P.globals.size < σ.next) (VJ:∀id o,σ.get id=some o->id<=P.globals.size/\∃c,o=.cells c 0 false false/\TabAt w id c) {ro:Nat->Option Obj} (hro:∀b o,ro b=some o->w.heap[b]? = some o) (htab:∀p∈aG.tabs,CG (vV P.globals.size σ ro) p.1 p.2):SR P (vV P.globals.size σ ro) σ w:=by
 refine ⟨λg hg=>?_,λid q hq=>?_,λid o ho=>?_,λ_ hg=>(by cases hg),λid o id' o' q q' h1 h2 h3 hne=>?_,hro,λid o q h1 h2 _=>?_,htab⟩;rotate_right
 ·obtain ⟨_,c,rfl,_⟩:=VJ id o h1
  cases h2
 ·exact ⟨_,_,by simp only [vV];rw [aj hg]⟩
 ·simp only [vV] at hq
  split at hq
  ·omega
  ·cases hq
 ·obtain ⟨hid,c,rfl,⟨cs,elem,fr,hb,hl,hk⟩⟩:=VJ id o ho
  refine .inl ⟨⟨id,0,c.length,0⟩, ?_,cs,elem,fr,hb, ?_⟩
  ·simp only [vV];rw [aj hid,ho]
  ·refine ⟨by simpa using hl,dH _,λ_=>rfl,λk a ha=>?_,(λh=>by cases h),λh=>absurd rfl h,(λh=>by cases h)⟩
   obtain ⟨x,hx,hv⟩:=hk.1 k a ha;exact ⟨x,by simpa using hx,hv.vr⟩
 ·obtain ⟨_,c,rfl,_⟩:=VJ id o h1
  cases h2
theorem asj {w:World} {name:String} {k:IntKind} {zs:List Int} {g:Nat} (h:Lib.TabIs P w name k zs) (hg:P.globalNamed name=some g) (hz:zs.isEmpty=false:=by rfl):TabAt w g (zs.map λz=>.i k z):=by
 unfold Lib.TabIs World.var? at h;rw [hg] at h;simp only [Aa] at h;split at h
 ·next cs elem fr hb=>
  cases h;refine ⟨_,_,_,hb,by simp,λi a ha=>?_,λ_=>by simp,λh=>by simp at h;rw [h] at hz;cases hz⟩;simp only [iF,aX] at ha;obtain ⟨z,hz,rfl⟩:=ha;exact ⟨.int k z,by simp [hz],.inl rfl⟩
 ·cases h
def Xp (k:IntKind) (n:Nat) (f:Nat->Int):DataW Unit:=.agg ((List.range n).map λi=>.agg ([f (2 * i),f (2 * i+1)].map λz=>.lit (.int k z)))
theorem asl {w:World} {name:String} {k:IntKind} {n:Nat} {f:Nat->Int} {g:Nat} {t e:TypeId} {fs:Array Field} (h:Lib.VarReads P w name (Xp k n f)) (hg:P.globalNamed name=some g)
 (hty:(P.globals[g]?).map (·.type)=some t) (ht:P.underlying t=some (.array n e)) (he:P.underlying e=some (.struct fs))
 (hf:∀ (m:Nat) (fl:Field),fs[m]? = some fl->P.underlying fl.type=some (.int k)/\fl.offset=m/\P.cellsOf fl.type=1) (hfs:fs.size=2)
 (hce:P.cellsOf e=2) (hct:P.cellsOf t=2 * n) (hn:n≠0:=by decide):TabAt w g ((List.range (2 * n)).map λj=>.i k (f j)):=by
 obtain ⟨g',t',cs,fuel,p,hg',alU,hvar,hd⟩:=h;obtain rfl:=Ea (hg.symm.trans hg');obtain rfl:=Ea (hty.symm.trans alU);have hlen:cs.toList.length=2 * n:=by
  cases fuel with
  | zero=>simp [DataW.trod] at hd
  | succ fuel=>
    simp only [DataW.trod,ht] at hd;split at hd
    ·next hl=>rw [<- hct];exact hl
    ·cases hd
 have hcell:∀j,j < 2 * n->cs[j]? = some (.int k (f j)):=by
  intro j hj;obtain ⟨fuel',d,q,hdi,he'⟩:=Lib.array_elem ht hd (j / 2) (by omega);simp only [iF,Zr (show j / 2 < n by omega),fK,aT] at hdi;subst hdi;rw [hce] at he';have hcs:=Lib.ints_of_struct he hf (by rw [hce,hfs]) he';have e0:=rE (·[0]?) hcs;have e1:=rE (·[1]?) hcs;simp [qw] at e0 e1;by_cases hm:j % 2=0
  ·have:j / 2 * 2=j:=by omega
   rw [this] at e0;rw [e0];congr 3;omega
  ·have:j / 2 * 2+1=j:=by omega
   rw [this] at e1;rw [e1];congr 3;omega
 unfold World.var? at hvar;rw [hg] at hvar;simp only [Aa] at hvar;split at hvar
 ·next cs' elem fr hb=>
  cases hvar;refine ⟨_,_,_,hb,by simp at hlen ⊢;omega,λj a ha=>?_,λ_=>by simp at hlen ⊢;omega,λh=>by simp at h;omega⟩;simp only [iF,aX] at ha;obtain ⟨m,hm,rfl⟩:=ha;have hjl:j < 2 * n:=by
   have:=(dX.1 hm).1;simpa using this
  rw [Zr hjl] at hm;cases hm;exact ⟨_,hcell j hjl,.inl rfl⟩
 ·cases hvar
theorem ao5 {H:Type} {enc:TypeId×Value->H} {f:Func} {s:ChangeSpec} {apart fresh handsOn again:Bool} {W W':World} {args:Array Value} {v:Value} {ds gs:List (DataW H)} {before pa pv:List MemPlace}
 (hW:DataW.Whole enc P f.params.toList s.vars apart W args.toList ds gs before)
 (hres:∀ (b:Nat) (sp:Nat->Bool) (hd:Bool),DataW.TrodAll enc P W' b sp hd f.resultTypes.toList (v.resultList f.resultTypes.size) (s.fn H (ds++gs)).results [])
 (hargs:∀sp:Nat->Bool,(∀p∈before,sp p.block=true)->DataW.TrodAll enc P W' 0 sp true f.params.toList args.toList (s.fn H (ds++gs)).args pa)
 (hvars:∀sp:Nat->Bool,(∀p∈before,sp p.block=true)->DataW.TrodVars enc P W' sp s.vars (s.fn H (ds++gs)).vars pv)
 (hps:before=pa++pv) (hk:Kept W W')
 (hok:∀ (j:Nat) (t:TypeId) (r:Value),f.resultTypes[j]? = some t->(v.resultList f.resultTypes.size)[j]? = some r->Value.okWide P W' .any 0 t r) :
 s.post enc P f apart fresh handsOn again W args v W':=by
 have hold:∀p∈before,(λb=>decide (b < W.heap.size)) p.block=true:=λp hp=>by simpa using hW.lt p hp
 have hlt:=λp hp=>hW.lt p hp;refine ⟨ds,gs,before,[],pa,pv,hW,hres _ _ _,hargs _ hold,hvars _ hold,World.keptBut_mono (λp hp=>⟨hp, ?_⟩) (hk.but (·∈before)),λ_=>?_⟩
 ·rw [hps,jO] at hp
  exact Or.inr hp
 ·obtain ⟨_,_,_,_,_,hz,hn⟩:=hW
  refine ⟨hok,_,_,([]++pa)++pv,⟨[]++pa,pv,trodAll_append (hargs _ (λ_ _=>rfl)) (hres _ _ _),hvars _ (λ_ _=>rfl),rfl, ?_, ?_⟩, ?_⟩
  ·intro b off hp
   have hp':MemPlace.cell b off∈before:=by rw [hps];simpa using hp
   have hb:=hlt _ hp';rw [hk.frozen ⟨b,off,none⟩ hb];exact hz b off hp'
  ·intro ha
   have:=hn ha;rw [hps] at this;simpa using this
  ·intro p hp _
   rw [hps];simpa using hp
end
end Go.aJ
namespace Go.aJ
set_option linter.unusedSimpArgs false
noncomputable section
variable [aG]
set_option linter.unusedSectionVars false
variable {P:Program}
theorem kE.mono {f:FuncId} {args:Array Value} {w:World} {R R':Value->World->Prop} (h:kE P f args w R) (hR:∀v w',R v w'->R' v w'):kE P f args w R':=by
 rcases h with ⟨v,w',h1,h2⟩ | ⟨h1,h2⟩
 ·exact .inl ⟨v,w',h1,hR v w' h2⟩
 ·refine .inr ⟨h1,Calls.mono' h2 ?_⟩
  rintro e w' ⟨v,he,hr⟩
  exact ⟨v,he,hR v w' hr⟩
theorem St.adX {η:Env} {σ:au} {w w':World} (h:SR P η σ w) (hk:Kept w w'):St P η σ w η σ w':=by
 refine ⟨Env.le.refl _,⟨h.kY,h.dom,λid o ho=>?_,h.jq,h.sep,λb o hb=>(hk.keep b (uJ (h.iP b o hb))).trans (h.iP b o hb),h.ku,h.tabs⟩,hk.size,λbl hb _=>hk.keep bl hb,λid o q h1 h2 h3 h4=>.inr ⟨id,o,q,h1,h2,h3,h4,rfl⟩,hk.os,hk.tape,hk.output,rfl,dH _,λ_ h=>.inl h,λ_ h=>.inl h⟩;exact (h.live id o ho).heap λq _ hr=>hk.keep _ hr.lt
theorem CG.at {η:Env} {σ:au} {w:World} (h:SR P η σ w) {g:Nat} {c:List AV} (ht:CG η g c):TabAt w g c:=by
 obtain ⟨cs,elem,fr,h1,h2,h3⟩:=ht;exact ⟨cs,elem,fr,h.iP _ _ h1,h2,h3⟩
def yJ (σ0:au) (n:Nat):Prop:=n < σ0.next/\∀id o,σ0.get id=some o->∃c,o=.cells c 0 false false/\(id,c)∈aG.tabs/\id<=n
theorem SR.SA {η:Env} {σ σ0:au} {w:World} (h:SR P η σ w) (h0:yJ σ0 P.globals.size):SR P (vV P.globals.size σ0 η.ro) σ0 w:=
 J3 h0.1 (λid o ho=>by
  obtain ⟨c,rfl,hm,hle⟩:=h0.2 id o ho;exact ⟨hle,c,rfl,(h.tabs _ hm).at h⟩) h.iP (λp hp=>by
   obtain ⟨cs,elem,fr,h1,h2⟩:=h.tabs p hp;exact ⟨cs,elem,fr,h1,h2⟩)
theorem yJ.own {σ0:au} {n:Nat} (h:yJ σ0 n):∀id o,σ0.get id=some o->o.own=false:=by
 intro id o ho;obtain ⟨c,rfl,_⟩:=h.2 id o ho;rfl
def FT:dR:=λargs σ=>match args with
 | []=>some (.b true,σ)
 | _=>none
theorem aop {call:Caller} {f:FuncId} {σ0 σ':au} (hcall:qj P call) (h0:yJ σ0 P.globals.size) (hrun:call f [] σ0=some (.b true,σ')):dS P f FT:=by
 intro args σ r σ1 hs η w vs hS hv;unfold FT at hs;split at hs
 ·cases hs
  simp only [aA] at hv;subst hv;refine kE.mono (hcall f [] σ0 _ _ hrun _ w [] (hS.SA h0) rfl) ?_;rintro v w' ⟨η',hst,hr⟩
  refine ⟨η,St.adX hS (hst.kept h0.own), ?_⟩;simp only [VR] at hr ⊢;exact hr
 ·cases hs
end
end Go.aJ
namespace Go.aJ
set_option linter.unusedSimpArgs false
noncomputable section
variable [aG]
set_option linter.unusedSectionVars false
set_option linter.unusedVariables false
variable {P:Program}
theorem VR.ground {η η':Env} {a:AV} {v:Value} (ha:a.under 0=true) (h:VR η a v) (hro:∀b o,η.ro b=some o->η'.ro b=some o):VR η' a v:=
 VR.mono (η:=η.cut 0) ⟨λid q hq=>by simp [Env.cut] at hq,hro,λid hg=>by simp [Env.cut] at hg⟩ a v (VR.cut a v ha h)
theorem aA.ground {η η':Env} {l:List AV} {vs:List Value} (ha:AV.nK 0 l=true) (h:aA η l vs) (hro:∀b o,η.ro b=some o->η'.ro b=some o):aA η' l vs:=
 aA.mono (η:=η.cut 0) ⟨λid q hq=>by simp [Env.cut] at hq,hro,λid hg=>by simp [Env.cut] at hg⟩ l vs (aA.cut l vs ha h)
def grp (agg:Bool) (size:Nat):Nat->List AV->List AV
 | 0,_=>[]
 | n+1,cs=>(if agg then .agg (cs.take size) else cs.headD .jB)::grp agg size n (cs.drop size)
def EH (agg:Bool) (size:Nat):Nat->List Value->List Value
 | 0,_=>[]
 | n+1,cs=>(if agg then .agg ⟨cs.take size⟩ else cs.headD undef)::EH agg size n (cs.drop size)
theorem Vl (agg:Bool) (size:Nat):∀ (n:Nat) (l:List AV),(grp agg size n l).length=n
 | 0,_=>rfl
 | n+1,l=>by simp [grp,Vl agg size n]
theorem ab7 {η:Env} {agg:Bool} {size:Nat} (h1:agg=false->size=1):∀ (n:Nat) (l:List AV) (xs:List Value),aA η l xs->l.length=n * size->l.all AV.lJ=true->
 aA η (grp agg size n l) (EH agg size n xs)/\(∀x∈EH agg size n xs,x.cells.size=size)/\dh (EH agg size n xs)=xs
 | 0,l,xs,hv,hl,_=>by
   have:xs=[]:=by
    apply jh;rw [<- hv.length,hl];exact Nat.zero_mul _
   subst this;simp [grp,EH,aA,dh]
 | n+1,l,xs,hv,hl,hone=>by
   have hlen:=hv.length;rw [qC,D8] at hl;have ih:=ab7 h1 n (l.drop size) (xs.drop size) (hv.drop size) (by simp;omega) (by
    rw [List.all_eq_true] at hone ⊢;exact λa ha=>hone a (JK ha))
   cases agg with
   | true=>
     simp only [grp,EH,if_true];refine ⟨aA.cons (by simp only [VR];exact ⟨_,rfl,hv.take size⟩) ih.1, ?_, ?_⟩
     ·intro x hx
      rcases bC.1 hx with rfl | hx
      ·have:=hlen;simp [Value.cells];try omega
      ·exact ih.2.1 x hx
     ·have:=ih.2.2
      simp only [dh,ji] at this ⊢;rw [this];simp [Value.cells]
   | false=>
     have hs:=h1 rfl;subst hs;cases l with
     | nil=>simp at hl
     | cons a l=>
       simp only [aA] at hv;obtain ⟨x,ys,rfl,h2,h3⟩:=hv;have ha:=List.all_eq_true.1 hone a (by simp);have hx1:=Xb h2 ha;have hxc:x.cells = #[x]:=by cases x<;>simp [oD] at hx1<;>rfl
       simp only [grp,EH,fV,if_false,List.headD_cons];simp only [Tz,dO] at ih ⊢;refine ⟨aA.cons h2 ih.1, ?_, ?_⟩
       ·intro y hy
        rcases bC.1 hy with rfl | hy
        ·rw [hxc];rfl
        ·exact ih.2.1 y hy
       ·have:=ih.2.2
        simp only [dh,ji] at this ⊢;rw [this,hxc];rfl
def sV (P:Program) (σ:au):Nat->AV->Option AV
 | 0,_=>none
 | n+1,a=>
   match a with
   | .sl id off len _=>
     if len=0 then some (.ro []) else
     match σ.get id with
     | some (.cells c et true _)=>
       match sizeT P et,nD P et with
       | some size,some agg=>
         if (agg=true/\0 < size)\/size=1 then
          match takeN c off (len * size) with
          | some cs=>match rX (sV P σ n) cs with
            | some ds=>if ds.all AV.lJ then some (.ro (grp agg size len ds)) else none
            | none=>none
          | none=>none
         else none
       | _,_=>none
     | _=>none
   | .bT=>some (.ro [])
   | .agg l=>(rX (sV P σ n) l).map .agg
   | .bY l=>(rX (sV P σ n) l).map .bY
   | .dY t x=>(sV P σ n x).map (.dY t)
   | a=>if a.under 0 then some a else none
theorem aoh {η η':Env} {f:AV->Option AV} (hf:∀a r v,f a=some r->VR η a v->VR η' r v) {l r:List AV} {vs:List Value} (h:rX f l=some r) (hv:aA η l vs):aA η' r vs:=by
 obtain ⟨h1,h2⟩:=Jc h;refine aA.of (by rw [<- h1];exact hv.length) λk a hk=>?_;have hlt:k < l.length:=by have:=(dX.1 hk).1;omega
 obtain ⟨y,hy,hfy⟩:=h2 k _ (bM hlt);rw [hk] at hy;cases hy;obtain ⟨x,hx,jP⟩:=hv.at (bM hlt);exact ⟨x,hx,hf _ _ _ hfy jP⟩
theorem akM {η η':Env} {σ:au} {w:World} {N:Nat} (h:SR P η σ w) (hown:∀id o q,σ.get id=some o->o.own=true->η id=some q->N<=q.bl)
 (hro:∀b o,η.ro b=some o->η'.ro b=some o) (hnew:∀b o,N<=b->w.heap[b]? = some o->η'.ro b=some o):∀ (n:Nat) (a r:AV) (v:Value),sV P σ n a=some r->VR η a v->VR η' r v:=by
 intro n;induction n with
 | zero=>intro a r v hf;simp [sV] at hf
 | succ n ih=>
   intro a r v hf hv;have lst:∀ (l r:List AV) (vs:List Value),rX (sV P σ n) l=some r->aA η l vs->aA η' r vs:=λl r vs h1 h2=>aoh ih h1 h2;unfold sV at hf;split at hf
   ·next id off len cap=>
    simp only [VR] at hv;obtain ⟨q,hq,hle,rfl⟩:=hv;split at hf
    ·next h0=>cases hf;subst h0;exact MK
    ·next h0=>
     split at hf
     ·next c et opn hg=>
      split at hf
      ·next size agg hs ha=>
       split at hf
       ·next hsz=>
        split at hf
        ·next cs hcs=>
         split at hf
         ·next ds hds=>
          split at hf
          ·next hone=>
           cases hf;obtain ⟨q',hq',ws,elem,fr,hb,rr⟩:=h.obj _ _ hg rfl;rw [hq] at hq';cases hq';have hfull:=lst _ _ _ hds (rr.xA hcs);have hl1:=(qg hcs).2.1;have hl2:=(Jc hds).1;have hsz1:agg=false->size=1:=λe=>hsz.elim (λh=>absurd (h.1.symm.trans e) (by simp)) (λh=>h);obtain ⟨g1,g2,g3⟩:=ab7 hsz1 len ds _ hfull (by rw [<- hl2,hl1]) hone;have hfit:=rr.take hcs;have hfl:=hfull.length;simp only [VR];right;refine ⟨q.bl,q.ba+off,_,_,size,by rw [Vl],by rw [Vl];exact hle,g1,g2,λ_=>⟨ws,elem,fr,hnew _ _ (hown id _ q hg rfl hq) hb, ?_, ?_⟩⟩
           ·rw [g3];rw [<- hfl,<- hl2,hl1];have:0 < len * size:=JU (by omega) (by omega);omega
           ·rw [g3]
            intro k x hk;rw [kQ] at hk;split at hk
            ·rw [qw,tX] at hk;exact hk
            ·cases hk
          ·cases hf
         ·cases hf
        ·cases hf
       ·cases hf
      ·cases hf
     ·cases hf
   ·cases hf
    simp only [VR] at hv ⊢;exact .inl ⟨trivial,_,hv⟩
   ·simp only [aX] at hf
    obtain ⟨l',hl,rfl⟩:=hf;simp only [VR] at hv ⊢;obtain ⟨vs,rfl,hv⟩:=hv;exact ⟨vs,rfl,lst _ _ _ hl hv⟩
   ·simp only [aX] at hf
    obtain ⟨l',hl,rfl⟩:=hf;simp only [VR] at hv ⊢;obtain ⟨vs,rfl,hv⟩:=hv;exact ⟨vs,rfl,lst _ _ _ hl hv⟩
   ·simp only [aX] at hf
    obtain ⟨x',hx,rfl⟩:=hf;simp only [VR] at hv ⊢;obtain ⟨y,rfl,hv⟩:=hv;exact ⟨y,rfl,ih _ _ _ hx hv⟩
   ·split at hf
    ·next hu=>cases hf;exact VR.ground hu hv hro
    ·cases hf
structure Base where
 w:World
 hole:Nat->Prop
 anch:Nat->Option Place
structure NJ (b:Base) (W':World):Prop where
 os:W'.os=b.w.os
 tape:W'.tape=b.w.tape
 output:W'.output=b.w.output
 size:b.w.heap.size<=W'.heap.size
 keep:∀bl,bl < b.w.heap.size->¬ b.hole bl->W'.heap[bl]? = b.w.heap[bl]?
def Base.shut (w:World):Base:=⟨w,λ_=>False,λ_=>none⟩
structure jr (P:Program) (w0:Base) (dw:Nat->Option Obj) (η:Env) (σ:au) (w:World):Prop where
 rel:SR P η σ w
 kept:NJ w0 w
 own:∀id o q,σ.get id=some o->o.own=true->η id=some q->w0.w.heap.size<=q.bl\/w0.hole q.bl
 rY:∀b o,dw b=some o->η.ro b=some o
 oZ:∀b,η.ro b≠none->dw b≠none\/w0.w.heap.size<=b\/w0.hole b
 nS:∀i q,w0.anch i=some q->η i=some q/\P.globals.size < i/\i<=P.globals.size+fZ.ka
theorem Kept.refl (w:World):Kept w w:=⟨rfl,rfl,rfl,dH _,λ_ _=>rfl⟩
theorem jr.start {η:Env} {σ:au} {w:World} (h:SR P η σ w) (hno:∀id o,σ.get id=some o->o.own=false):jr P (.shut w) η.ro η σ w:=
 ⟨h,⟨rfl,rfl,rfl,dH _,λ_ _ _=>rfl⟩,λid o q h1 h2=>(by rw [hno id o h1] at h2;cases h2),λ_ _ h=>h,λ_ h=>.inl h,λ_ _ h=>by cases h⟩
theorem NJ.shut {w w':World} (h:NJ (.shut w) w'):Kept w w':=⟨h.os,h.tape,h.output,h.size,λbl hb=>h.keep bl hb (λe=>e)⟩
theorem jr.aol {w:World} {dw:Nat->Option Obj} {η:Env} {σ:au} {w':World} (h:jr P (.shut w) dw η σ w'):∀id o q,σ.get id=some o->o.own=true->η id=some q->w.heap.size<=q.bl:=by
 intro id o q a b c;rcases h.own id o q a b c with h1 | h1
 ·exact h1
 ·cases h1
theorem jr.ae6 {w:World} {dw:Nat->Option Obj} {η:Env} {σ:au} {w':World} (h:jr P (.shut w) dw η σ w'):∀b,η.ro b≠none->dw b≠none\/w.heap.size<=b:=by
 intro b hb;rcases h.oZ b hb with h1 | h1 | h1
 ·exact .inl h1
 ·exact .inr h1
 ·cases h1
theorem jr.step {w0:Base} {dw:Nat->Option Obj} {η η':Env} {σ σ':au} {w w':World} (h:jr P w0 dw η σ w) (hl:σ.lock=0) (k:St P η σ w η' σ' w'):jr P w0 dw η' σ' w':=by
 refine ⟨k.rel,⟨k.os.trans h.kept.os,k.tape.trans h.kept.tape,k.output.trans h.kept.output,jw h.kept.size k.size,λbl hb hh=>?_⟩,λid o q h1 h2 h3=>?_,λb o hb=>k.ext.ro b o (h.rY b o hb),λb hb=>?_,λi q hi=>⟨k.ext.pl _ _ (h.nS i q hi).1,(h.nS i q hi).2⟩⟩
 ·rw [k.keep bl (vI hb h.kept.size) (λid o q a1 a2 _ a4=>by
   rcases h.own id o q a1 a2 a4 with h1 | h1
   ·omega
   ·intro e;rw [e] at h1;exact hh h1)]
  exact h.kept.keep bl hb hh
 ·rcases k.own id o q h1 h2 (by rw [hl];exact uj _) h3 with h4 | ⟨dF,o0,q0,a,b,_,d,e⟩
  ·exact .inl (jw h.kept.size h4)
  ·rw [<- e];exact h.own dF o0 q0 a b d
 ·rcases k.oZ b hb with h1 | h1 | ⟨dF,o0,q0,a1,b1,c1,d1,e1⟩
  ·exact h.oZ b h1
  ·exact .inr (.inl (jw h.kept.size h1))
  ·right;rw [<- e1];exact h.own dF o0 q0 a1 b1 d1
def Fn (P:Program) (f:FuncId) (args:List AV) (R:AV->Prop):Prop:=∀η σ w vs,SR P η σ w->aA η args vs->kE P f ⟨vs⟩ w λv w'=>∃η' r,R r/\St P η σ w η' σ w'/\VR η' r v
theorem jr.freeze {η η1:Env} {σ σ1:au} {w w1:World} (hS:SR P η σ w) (h:jr P (.shut w) η.ro η1 σ1 w1) {n:Nat} {r r':AV} {v:Value} (hf:sV P σ1 n r=some r') (hv:VR η1 r v) :
 ∃η',St P η σ w η' σ w1/\VR η' r' v:=by
 let ro':Nat->Option Obj:=λb=>if b < w.heap.size then η.ro b else w1.heap[b]?
 have hlt:∀b o,η.ro b=some o->b < w.heap.size:=λb o hb=>uJ (hS.iP b o hb);have hle:(η:Env).le ⟨η.pl,ro',η.gh⟩:=⟨λ_ _ h=>h,λb o hb=>by show (if _ then _ else _)=_;rw [aj (hlt b o hb)];exact hb,λ_ h=>h⟩
 have alM:∀b o,η1.ro b=some o->ro' b=some o:=by
  intro b o hb;show (if _ then _ else _)=_
  split
  ·next hb2=>
   rcases h.ae6 b (by rw [hb];simp) with h1 | h1
   ·cases he:η.ro b with
    | none=>exact absurd he h1
    | some o2=>have:=h.rY b o2 he;rw [hb] at this;exact this.symm
   ·omega
  ·exact h.rel.iP b o hb
 refine ⟨⟨η.pl,ro',η.gh⟩, ?_,akM (N:=w.heap.size) h.rel h.aol alM (λb o hb ho=>by show (if _ then _ else _)=_;rw [ah (by omega)];exact ho) n r r' v hf hv⟩;have hk:=h.kept.shut;refine ⟨hle,⟨hS.kY,hS.dom,λid o ho=>?_,hS.jq,hS.sep,λb o hb=>?_,λid o q a1 a2 a3=>?_,λp hp=>(hS.tabs p hp).mono hle⟩,hk.size,λbl hb _=>hk.keep bl hb,λid o q h1 h2 h3 h4=>.inr ⟨id,o,q,h1,h2,h3,h4,rfl⟩,hk.os,hk.tape,hk.output,rfl,dH _,λ_ h=>.inl h,λb hb=>?_⟩
 ·exact ((hS.live id o ho).heap λq _ hr=>hk.keep _ hr.lt).mono hle
 ·have hb':(if b < w.heap.size then η.ro b else w1.heap[b]?)=some o:=hb
  split at hb'
  ·next hl=>rw [hk.keep b hl];exact hS.iP b o hb'
  ·exact hb'
 ·have hr:=hS.at a1 (show η id=some q from a3)
  show (if q.bl < w.heap.size then η.ro q.bl else w1.heap[q.bl]?)=none
  rw [aj hr.lt];exact hS.ku id o q a1 a2 a3
 ·have hb':(if b < w.heap.size then η.ro b else w1.heap[b]?)≠none:=hb
  split at hb'
  ·exact .inl hb'
  ·next hl=>right;left;omega
theorem Fn.adW {call:Caller} {f:FuncId} {σ0 σ':au} {args:List AV} {r r':AV} (hcall:qj P call) (h0:yJ σ0 P.globals.size) (hl:σ0.lock=0) (ha:AV.nK 0 args=true) (hrun:call f args σ0=some (r,σ')) (n:Nat) (hf:sV P σ' n r=some r'):Fn P f args (· = r'):=by
 intro η σ w vs hS hv;have hS0:=hS.SA h0;refine kE.mono (hcall f args σ0 _ _ hrun _ w vs hS0 (aA.ground ha hv (λ_ _ h=>h))) ?_;rintro v w' ⟨η1,hst,hr⟩
 have hF:=(jr.start hS0 h0.own).step hl hst;obtain ⟨η',h1,h2⟩:=hF.freeze (η:=η) hS hf hr;exact ⟨η',r',rfl,h1,h2⟩
theorem dS.aoa {f:FuncId} {g:List AV->Option AV} (h:∀args r,g args=some r->Fn P f args (· = r)):dS P f λargs σ=>(g args).map (·,σ):=by
 intro args σ r σ' hs η w vs hS hv;simp only [aX,kH] at hs;obtain ⟨r0,hg,rfl,rfl⟩:=hs;refine kE.mono (h args r0 hg η σ w vs hS hv) ?_;rintro v w' ⟨η',r,rfl,h1,h2⟩
 exact ⟨η',h1,h2⟩
end
end Go.aJ
