/- Functions without a Go body: what the model does at them, for the evaluator. -/
import Derived.Test.YtjglbndncdkhhaaGreatDoorAbsG
import Derived.Laws.Externs
import Derived.Lib.LaidU8
import Derived.ChangeSame
namespace Go.aN
set_option linter.unusedSimpArgs false
noncomputable section
variable [aF]
set_option linter.unusedSectionVars false
set_option linter.unusedVariables false
variable {P:Program} {η:Env} {σ σ':ak} {w:World}
abbrev eP:=List AV->ak->Option (AV×ak)
def dY (P:Program) (f:FuncId) (g:eP):Prop:=∀args σ r σ',g args σ=some (r,σ')->∀η w vs,SR P η σ w->ay η args vs->
 jT P f ⟨vs⟩ w λv w'=>∃η',St P η σ w η' σ' w'/\VR η' r v
def Ls:List (FuncId×eP)->Tr eP
 | []=>.nil
 | (k,g)::l=>(Ls l).set k (some g)
def Xb (l:List (FuncId×eP)):uJ:=(Ls l).get
theorem aex:∀ {l:List (FuncId×eP)} {f:FuncId} {g:eP},(Ls l).get f=some g->(f,g)∈l
 | [],f,g,h=>by simp [Ls] at h
 | (k,u)::l,f,g,h=>by
   rw [Ls,Tr.tH] at h;split at h
   ·next e=>cases h;subst e;simp
   ·exact wI _ (aex h)
theorem adk {l:List (FuncId×eP)} (h:∀p∈l,dY P p.1 p.2):MO P (Xb l):=λf g hg=>h (f,g) (aex hg)
structure Ext (P:Program) (f:FuncId) (e:Array Value->Sem Value):Prop where
 call:∀args w,(callFunc f args).run P w=((e args).run P w).andThen λv w'=>.ok (.value v) w'
theorem Ext.mk' {f:FuncId} {fn:Func} {e:Array Value->Sem Value} (hf:P.funcs[f]? = some fn) (hname:(fn.name == "runtime.NumGoroutine")=false)
 (hb:fn.body.isNone=true) (hn:Extern.findNext fn=none) (he:Extern.find fn=some e):Ext P f e:=⟨λargs w=>run_callFunc_extern hf hname hb hn he args w⟩
theorem Ext.FT {f:FuncId} {e:Array Value->Sem Value} (h:Ext P f e) {args:Array Value} {R:Value->World->Prop} (hr:∃v w',(e args).run P w=.ok v w'/\R v w'):jT P f args w R:=by
 obtain ⟨v,w',h1,h2⟩:=hr;exact .inl ⟨v,w',by rw [h.call,h1];rfl,h2⟩
def KR:eP:=λl σ=>match l with | [x]=>some (x,σ) | _=>none
theorem ac3 {f:FuncId} (h:Ext P f Extern.AbiNoEscape.same):dY P f KR:=by
 intro args σ r σ' hs η w vs hS hv;unfold KR at hs;split at hs
 ·cases hs
  simp only [ay] at hv;obtain ⟨x,_,rfl,hx,rfl⟩:=hv;exact h.FT ⟨x,w,rfl,η,St.refl hS,hx⟩
 ·cases hs
def ZT (a b:List UInt8):Int:=Extern.BytealgCompare.cmp ⟨⟨a⟩⟩ ⟨⟨b⟩⟩
def V8:eP:=λl σ=>match l with | [.s a,.s b]=>some (.i .i64 (ZT a b),σ) | _=>none
theorem alp {f:FuncId} (h:Ext P f Extern.BytealgCompare.compare):dY P f V8:=by
 intro args σ r σ' hs η w vs hS hv;unfold V8 at hs;split at hs
 ·cases hs
  simp only [ay,VR] at hv;obtain ⟨x,_,rfl,rfl,y,_,rfl,rfl,rfl⟩:=hv;refine h.FT ⟨_,w,rfl,η,St.refl hS,by simp only [VR];rfl⟩
 ·cases hs
def Wj (P:Program):eP:=λl σ=>match l with
 | [.dS t a]=>match nM P (Extern.Rtype.kind t) with
   | some k=>some (.agg [.p P.globals.size t,.p σ.next 0,.i .u64 ((k+128:Nat):Int)],σ.new (.cells a.cells t true false))
   | none=>none
 | _=>none
theorem abb (h:SR P η σ w) (t:TypeId):VR η (.p P.globals.size t) (typeHandle P t):=by
 obtain ⟨sz,es,h1⟩:=h.kR P.globals.size (dD _);simp only [VR];exact ⟨_,h1,by simp [typeHandle]⟩
theorem alu {f:FuncId} (h:Ext P f (λargs=>Extern.ReflectliteValue.unpack (args.getD 0 (.tuple #[])))):dY P f (Wj P):=by
 intro args σ r σ' hs η w vs hS hv;unfold Wj at hs;split at hs
 ·next t a=>
  split at hs
  ·next k hk=>
   cases hs;simp only [ay,VR] at hv;obtain ⟨_,_,rfl,⟨x,rfl,hx⟩,rfl⟩:=hv;obtain ⟨y,w',η',h1,h2,h3⟩:=Zn (t:=t) hS hx;simp only [VR] at h3;obtain ⟨q,hq,rfl⟩:=h3;have h1':(newVar t x).run P w=.ok ⟨q.bl,q.ba+0,none⟩ w':=by
    simp only [Instr.box,aQ] at h1;cases hn:(newVar t x).run P w with
    | ok ad w2=>rw [hn] at h1;simp only [aP,aZ,Result.ok.injEq,Value.pointer.injEq,aT] at h1;obtain ⟨rfl,rfl⟩:=h1;rfl
    | halt e w2=>rw [hn] at h1;simp at h1
   refine h.FT ⟨.agg #[typeHandle P t,.pointer (some ⟨q.bl,q.ba+0,none⟩),.int .u64 ((k+128:Nat):Int)],w', ?_,η',h2, ?_⟩
   ·show (Extern.ReflectliteValue.unpack (.iface t x)).run P w=_
    simp only [Extern.ReflectliteValue.unpack,Extern.ReflectliteValue.mk,aQ,h1',aP,Extern.Rtype.handle,program,Sem.run,aZ,yK hk w'];rfl
   ·simp only [VR]
    exact ⟨_,rfl,ay.cons (by simpa only [VR] using abb h2.rel t) (ay.cons (by simp only [VR];exact ⟨q,hq,rfl⟩) (ay.cons (by simp only [VR]) (by simp [ay])))⟩
  ·cases hs
 ·cases hs
def V9 (P:Program):eP:=λl σ=>match l with
 | [.agg [.p g t,.p id off,.i .u64 f]]=>
   if g=P.globals.size/\0 < f/\f.toNat % 32=23 then
    match nM P (Extern.Rtype.noPack "a Value asked or handed on" t),nM P (Extern.Rtype.under t),sK P t σ (.p id off) with
    | some _,some (_,i),some v=>match i.desc with
      | .slice _=>(MZ P σ t v).map λn=>(n,σ)
      | _=>none
    | _,_,_=>none
   else none
 | _=>none
theorem abd (t:TypeId) {id:Nat} {x:Value} (hS:SR P η σ w) (hg:id=P.globals.size) (h:VR η (.p id t) x):x=typeHandle P t:=by
 subst hg;obtain ⟨sz,es,h1⟩:=hS.kR P.globals.size (dD _);simp only [VR] at h;obtain ⟨q,hq,rfl⟩:=h;rw [h1] at hq;cases hq;simp [typeHandle]
theorem VU (t:TypeId):(Extern.Rtype.ofHandle (typeHandle P t)).run P w=.ok t w:=by
 simp [Extern.Rtype.ofHandle,handleType,typeHandle,program,Sem.run]
theorem alq {f:FuncId} (h:Ext P f (Extern.ReflectliteValue.method (Extern.ReflectliteValue.valueError "reflectlite.Value.Len" 0) Extern.ReflectliteValue.len)):dY P f (V9 P):=by
 intro args σ r σ' hs η w vs hS hv;unfold V9 at hs;split at hs
 ·next g t id off fl=>
  split at hs
  ·next hc=>
   obtain ⟨hg,hpos,hk⟩:=hc;split at hs
   ·next u u2 i v h1 h2 h3=>
    split at hs
    ·next e hd=>
     simp only [aW,jV] at hs;obtain ⟨n,hn,rfl,rfl⟩:=hs;simp only [ay] at hv;obtain ⟨_,_,rfl,hx,rfl⟩:=hv;rw [VR] at hx;obtain ⟨ws,rfl,hx⟩:=hx;simp only [ay] at hx;obtain ⟨a1,_,rfl,ha1,a2,_,rfl,ha2,a3,_,rfl,ha3,rfl⟩:=hx;have e1:=abd t hS hg ha1;subst e1;obtain ⟨y,hy,rG⟩:=BO hS h3 ha2;simp only [VR] at ha2 ha3;obtain ⟨q,hq,rfl⟩:=ha2;subst ha3;obtain ⟨z,hz,tN⟩:=abX (ts:=#[t]) (ty:=0) hS rfl hn rG;refine h.FT ⟨z,w, ?_,η,St.refl hS,tN⟩;have hfl:fl≠0:=by omega
     have hparts:(Extern.ReflectliteValue.parts (.agg #[typeHandle P t,.pointer (some ⟨q.bl,q.ba+off,none⟩),.int .u64 fl])).run P w=.ok (some (t,⟨q.bl,q.ba+off,none⟩,fl.toNat)) w:=by
      have hany:(Extern.ReflectliteValue.partsAny (.agg #[typeHandle P t,.pointer (some ⟨q.bl,q.ba+off,none⟩),.int .u64 fl])).run P w=.ok (some (t,⟨q.bl,q.ba+off,none⟩,fl.toNat)) w:=by
       have hd:Extern.ReflectliteValue.partsAny (.agg #[typeHandle P t,.pointer (some ⟨q.bl,q.ba+off,none⟩),.int .u64 fl])=(do pure (some (<- Extern.Rtype.ofHandle (typeHandle P t),⟨q.bl,q.ba+off,none⟩,fl.toNat))):=by
        obtain ⟨m,rfl⟩:∃m:Nat,fl=((m+1:Nat):Int):=⟨fl.toNat - 1,by omega⟩
        rfl
       rw [hd];simp only [aQ,VU,aP,aZ]
      unfold Extern.ReflectliteValue.parts;simp only [aQ,hany,aP,yK h1 w,aZ]
     have hlen:(Extern.ReflectliteValue.len t ⟨q.bl,q.ba+off,none⟩ fl.toNat (fl.toNat % 32)).run P w=.ok z w:=by
      unfold Extern.ReflectliteValue.len;have hy':(loadVar t ⟨q.bl,q.ba+off,none⟩).run P w=.ok y w:=by simpa [Instr.loadAt,Instr.sureAddr] using hy
      rw [hk];have hcont:(!([17,18,21,23,24]:List Nat).contains 23)=false:=rfl;simp only [hcont,gU,if_false,aQ,yK h2 w,aP,hd,hy',hz]
     show (Extern.ReflectliteValue.method _ _ #[_]).run P w=_
     have hm:Extern.ReflectliteValue.method (Extern.ReflectliteValue.valueError "reflectlite.Value.Len" 0) Extern.ReflectliteValue.len #[.agg #[typeHandle P t,.pointer (some ⟨q.bl,q.ba+off,none⟩),.int .u64 fl]]=(do
      match <- Extern.ReflectliteValue.parts (.agg #[typeHandle P t,.pointer (some ⟨q.bl,q.ba+off,none⟩),.int .u64 fl]) with
      | none=>Extern.ReflectliteValue.valueError "reflectlite.Value.Len" 0
      | some (t,a,fl)=>Extern.ReflectliteValue.len t a fl (fl % 32)):=rfl
     rw [hm];simp only [aQ,hparts,aP];exact hlen
    ·cases hs
   ·cases hs
  ·cases hs
 ·cases hs
def abW:AV->Option Nat
 | .dL=>some 0
 | .sl _ _ n _=>some n
 | _=>none
def Ll:List (Nat×FuncId)->Nat->Option FuncId
 | [],_=>none
 | (j,f)::l,k=>bif Nat.beq k j then some f else Ll l k
theorem aec:∀ {tab:List (Nat×FuncId)} {k:Nat} {f:FuncId},Ll tab k=some f->(k,f)∈tab
 | [],k,f,h=>by simp [Ll] at h
 | (j,g)::l,k,f,h=>by
   unfold Ll at h;cases hb:Nat.beq k j with
   | true=>
     rw [hb] at h;cases h;rw [bn hb];exact List.mem_cons_self
   | false=>
     rw [hb] at h;exact wI _ (aec h)
def YT (P:Program) (tab:List (Nat×FuncId)):Prop:=∀p∈tab,P.funcs.findIdx? (·.name == "internal/reflectlite" ++ ".Swapper$" ++ toString p.1)=some p.2
def Wi (P:Program) (tab:List (Nat×FuncId)):eP:=λl σ=>match l with
 | [.dS t s]=>
   match nM P (Extern.Rtype.elem? t) with
   | some (some e)=>
     match abW s,P.info? e,nM P (Extern.Rtype.kind e) with
     | some n,some i,some kd=>
       let k:Nat:=
        if n==0 then 1 else if n==1 then 2
        else if i.hasPointers&&i.bytes==8 then 3
        else if i.hasPointers&&(kd==24) then 4
        else if i.hasPointers then 9
        else match i.bytes with | 8=>5 | 4=>6 | 2=>7 | 1=>8 | _=>9
       match Ll tab k with
       | some f=>some (.fn f [] (if k<=2 then [] else [s,.p P.globals.size e]),σ)
       | none=>none
     | _,_,_=>none
   | _=>none
 | _=>none
theorem aoV (pkg:String) (noSlice:Nat->Sem Value) (t:TypeId) (s:Value):Extern.ReflectliteSwapper.swapper pkg noSlice #[.iface t s]=(do
 let (.slice _ n _,some e):=(s,<- Extern.Rtype.elem? t) | noSlice (<- Extern.Rtype.kind t)
 let i <- typeInfo e
 let isString:=(<- Extern.Rtype.kind e)==24
 let k:Nat:=
  if n==0 then 1 else if n==1 then 2
  else if i.hasPointers&&i.bytes==8 then 3
  else if i.hasPointers&&isString then 4
  else if i.hasPointers then 9
  else match i.bytes with | 8=>5 | 4=>6 | 2=>7 | 1=>8 | _=>9
 let h <- Extern.Rtype.handle e
 Extern.ReflectliteSwapper.literal pkg k (if k<=2 then #[] else #[s,h])):=rfl
theorem als {f:FuncId} (h:Ext P f (Extern.ReflectliteSwapper.swapper "internal/reflectlite" (Extern.ReflectliteValue.valueError "Swapper"))) {tab:List (Nat×FuncId)} (htab:YT P tab):dY P f (Wi P tab):=by
 intro args σ r σ' hs η w vs hS hv;unfold Wi at hs;split at hs
 ·next t s=>
  split at hs
  ·next e he=>
   split at hs
   ·next n i kd hn hi hk=>
    simp only at hs;split at hs
    ·next fi hfi=>
     cases hs;simp only [ay,VR] at hv;obtain ⟨_,_,rfl,⟨x,rfl,hx⟩,rfl⟩:=hv;have hsl:∃a c,x=.slice a n c:=by
      cases s<;>simp [abW] at hn
      ·subst hn;simp only [VR] at hx;exact ⟨_,_,hx⟩
      ·subst hn;simp only [VR] at hx;obtain ⟨q,_,_,rfl⟩:=hx;exact ⟨_,_,rfl⟩
     obtain ⟨a,c,rfl⟩:=hsl;generalize hkk:(if (n==0)=true then 1 else if (n==1)=true then 2 else if (i.hasPointers&&i.bytes==8)=true then 3 else if (i.hasPointers&&(kd==24))=true then 4 else if i.hasPointers=true then 9 else match i.bytes with | 8=>5 | 4=>6 | 2=>7 | 1=>8 | _=>9:Nat)=k at *;have hfi:=htab _ (aec hfi);refine h.FT ⟨.func (.func fi) #[] (if k<=2 then #[] else #[.slice a n c,typeHandle P e]),w, ?_,η,St.refl hS, ?_⟩
     ·show (Extern.ReflectliteSwapper.swapper "internal/reflectlite" _ #[.iface t (.slice a n c)]).run P w=_
      have hd:=aoV "internal/reflectlite" (Extern.ReflectliteValue.valueError "Swapper") t (.slice a n c);rw [hd];simp only [aQ,yK he w,aP,Cb hi,yK hk w,Extern.Rtype.handle,program,Sem.run,aZ,hkk,Extern.ReflectliteSwapper.literal,hfi]
     ·simp only [VR]
      by_cases h2:k<=2
      ·simp only [h2,if_true];exact ⟨[],[],rfl,by simp [ay],by simp [ay]⟩
      ·simp only [h2,if_false];exact ⟨[],[_,_],rfl,by simp [ay],ay.cons hx (ay.cons (abb hS e) (by simp [ay]))⟩
    ·cases hs
   ·cases hs
  ·cases hs
 ·cases hs
def Ad (P:Program):eP:=λl σ=>match l with
 | [.i .i64 i,.i .i64 j,.sl id off n cap,.p g e]=>
   if g=P.globals.size/\0<=i/\i < n/\0<=j/\j < n then
    match sizeT P e with
    | some size=>
      match sK P e σ (.p id (off+i.toNat * size)),sK P e σ (.p id (off+j.toNat * size)) with
      | some x,some y=>match AY P e σ (.p id (off+i.toNat * size)) y with
        | some σ1=>match AY P e σ1 (.p id (off+j.toNat * size)) x with
          | some σ2=>some (.dM [],σ2)
          | none=>none
        | none=>none
      | _,_=>none
    | none=>none
   else none
 | _=>none
theorem ab1 {t:TypeId} {b:Bool} {ad:Addr} {y:Value} (h:(Instr.loadAt t (.pointer (some ad))).run P w=.ok y w):(loadVar t ad).run P w=.ok y w:=by
 simpa [Instr.loadAt,Instr.sureAddr] using h
theorem aea {t:TypeId} {ad:Addr} {y:Value} {w':World} (h:(Instr.storeAt t (.pointer (some ad)) y).run P w=.ok () w'):(storeVar t ad y).run P w=.ok () w':=by
 simpa [Instr.storeAt,Instr.sureAddr] using h
theorem Ep {f:FuncId} {b:Bool} (h:Ext P f (Extern.ReflectliteSwapper.swap b)):dY P f (Ad P):=by
 intro args σ r σ' hs η w vs hS hv;unfold Ad at hs;split at hs
 ·next i j id off n cap g e=>
  split at hs
  ·next hc=>
   obtain ⟨hg,hi0,hin,hj0,hjn⟩:=hc;split at hs
   ·next size hsz=>
    split at hs
    ·next x y hx hy=>
     split at hs
     ·next σ1 hs1=>
      split at hs
      ·next σ2 hs2=>
       cases hs;simp only [ay] at hv;obtain ⟨v1,_,rfl,h1,v2,_,rfl,h2,v3,_,rfl,h3,v4,_,rfl,h4,rfl⟩:=hv;have e4:=abd e hS hg h4;subst e4;simp only [VR] at h1 h2 h3;subst h1;subst h2;obtain ⟨q,hq,hle,rfl⟩:=h3;have pi:VR η (.p id (off+i.toNat * size)) (.pointer (some ⟨q.bl,q.ba+(off+i.toNat * size),none⟩)):=by simp only [VR];exact ⟨q,hq,rfl⟩
       have pj:VR η (.p id (off+j.toNat * size)) (.pointer (some ⟨q.bl,q.ba+(off+j.toNat * size),none⟩)):=by simp only [VR];exact ⟨q,hq,rfl⟩
       obtain ⟨u,hu,hvu⟩:=BO hS hx pi;obtain ⟨u',hu',ajF⟩:=BO hS hy pj;obtain ⟨w1,hst1,hS1⟩:=QE hS hs1 pi ajF;have pj1:VR η (.p id (off+j.toNat * size)) (.pointer (some ⟨q.bl,q.ba+(off+j.toNat * size),none⟩)):=pj;obtain ⟨w2,hst2,hS2⟩:=QE hS1.rel hs2 pj1 hvu;refine h.FT ⟨.tuple #[],w2, ?_,η,hS1.trans hS2,by simp only [VR];exact ⟨[],rfl,by simp [ay]⟩⟩;have hex:(Extern.ReflectliteSwapper.exchange e ⟨q.bl,q.ba+off,none⟩ i.toNat j.toNat).run P w=.ok (.tuple #[]) w2:=by
        unfold Extern.ReflectliteSwapper.exchange;have a1:=ab1 (b:=true) hu;have a2:=ab1 (b:=true) hu';have a3:=aea hst1;have a4:=aea hst2;simp only [aQ,iE hsz,aP,nT,iR,a1,a2,a3,a4,aZ]
       have t1:¬ (i < 0\/i>=n):=by omega
       have t2:¬ (j < 0\/j>=n):=by omega
       show (Extern.ReflectliteSwapper.swap b #[.int .i64 i,.int .i64 j,.slice (some ⟨q.bl,q.ba+off,none⟩) n _,typeHandle P e]).run P w=_
       cases b
       ·have hd:∀c,Extern.ReflectliteSwapper.swap false #[.int .i64 i,.int .i64 j,.slice (some ⟨q.bl,q.ba+off,none⟩) n c,typeHandle P e]=(do
         if i < 0 || i>=n || j < 0 || j>=n then Extern.ReflectliteSwapper.outOfRange
         Extern.ReflectliteSwapper.exchange (<- Extern.Rtype.ofHandle (typeHandle P e)) ⟨q.bl,q.ba+off,none⟩ i.toNat j.toNat):=λ_=>rfl
        rw [hd];have t3:(decide (i < 0) || decide (i>=n) || decide (j < 0) || decide (j>=n))=false:=by simp;omega
        simp only [t3,gU,if_false,aQ,VU,aP,hex]
       ·have hd:∀c,Extern.ReflectliteSwapper.swap true #[.int .i64 i,.int .i64 j,.slice (some ⟨q.bl,q.ba+off,none⟩) n c,typeHandle P e]=(do
         if i < 0 || i>=n then boundsPanic .i64 i n .index
         if j < 0 || j>=n then boundsPanic .i64 j n .index
         Extern.ReflectliteSwapper.exchange (<- Extern.Rtype.ofHandle (typeHandle P e)) ⟨q.bl,q.ba+off,none⟩ i.toNat j.toNat):=λ_=>rfl
        rw [hd];have t3:(decide (i < 0) || decide (i>=n))=false:=by simp;omega
        have t4:(decide (j < 0) || decide (j>=n))=false:=by simp;omega
        simp only [t3,t4,gU,if_false,aQ,VU,aP,hex]
      ·cases hs
     ·cases hs
    ·cases hs
   ·cases hs
  ·cases hs
 ·cases hs
end
end Go.aN
namespace Go.aN
set_option linter.unusedSimpArgs false
noncomputable section
variable [aF]
set_option linter.unusedSectionVars false
set_option linter.unusedVariables false
variable {P:Program}
open Go.Extern.BytealgMakeNoZero
end
end Go.aN
namespace Go.aN
set_option linter.unusedSimpArgs false
noncomputable section
variable [aF]
set_option linter.unusedSectionVars false
open Go.ChangeShapes Go.WideShapes
variable {P:Program}
theorem Y6 {a b:Bool} (ha:a=true) (hb:b=true):(a&&b)=true:=by rw [ha,hb];rfl
structure Kept (W W':World):Prop where
 os:W'.os=W.os
 tape:W'.tape=W.tape
 output:W'.output=W.output
 size:W.heap.size<=W'.heap.size
 keep:∀bl,bl < W.heap.size->W'.heap[bl]? = W.heap[bl]?
theorem Kept.but {W W':World} (h:Kept W W') (m:MemPlace->Prop):W.keptBut W' m:=by
 refine ⟨h.os,h.output,λi hi=>?_⟩;rw [h.keep i hi];cases hw:W.heap[i]? with
 | none=>trivial
 | some o=>cases o<;>first | exact ⟨rfl,rfl,rfl,λ_ _=>rfl⟩ | exact .inr ⟨rfl,rfl⟩ | rfl
theorem Kept.frozen {W W':World} (h:Kept W W') (a:Addr) (ha:a.block < W.heap.size):W'.frozen? a=W.frozen? a:=by
 unfold World.frozen?;rw [h.keep _ ha]
theorem St.kept {η η':Env} {σ σ':ak} {w w':World} (h:St P η σ w η' σ' w') (hno:∀id o,σ.get id=some o->o.own=false):Kept w w':=
 ⟨h.os,h.tape,h.output,h.size,λbl hb=>h.keep bl hb λid o q h1 h2 _ _=>by rw [hno id o h1] at h2;cases h2⟩
theorem jT.calls {f:FuncId} {fn:Func} {c:Code} {args:Array Value} {w:World} {R:Value->World->Prop} (hn:sG P) (hf:P.funcs[f]? = some fn) (hc:fn.body=some c)
 (h:jT P f args w R):Calls P f args w λe w'=>∃v,e=.returned v/\R v w':=by
 rcases h with ⟨v,w',h,_⟩ | ⟨_,h⟩
 ·have hname:=hn f fn c hf hc
  simp only [callFunc,aQ,program,Sem.run,aP,hf] at h;simp only [hname,gU,if_false,hc,Fp,aZ] at h;cases h
 ·exact h
theorem Calls.mono' {f:FuncId} {args:Array Value} {w:World} {R R':Ending->World->Prop} (h:Calls P f args w R) (hR:∀e w',R e w'->R' e w'):Calls P f args w R':=by
 intro cs;obtain ⟨e,w',fr,h1,h2⟩:=h cs;exact ⟨e,w',fr,hR e w' h1,h2⟩
theorem ajW {f:FuncId} {fn:Func} {c:Code} {args:List AV} {vs:List Value} {w:World} {η:Env} {σ σ':ak} {r:AV} {call:Caller} (hcall:oV P call) (hn:sG P) (hf:P.funcs[f]? = some fn) (hc:fn.body=some c)
 (hrun:call f args σ=some (r,σ')) (hS:SR P η σ w) (hv:ay η args vs) (hno:∀id o,σ.get id=some o->o.own=false) :
 Calls P f ⟨vs⟩ w λe w'=>∃v,e=.returned v/\(∃η',VR η' r v)/\Kept w w':=
 Calls.mono' (jT.calls hn hf hc (hcall f args σ r σ' hrun η w vs hS hv)) λ_ _ ⟨v,he,η',hst,hr⟩=>⟨v,he,⟨η',hr⟩,hst.kept hno⟩
def uQ (n:Nat) (σ:ak) (ro:Nat->Option Obj:=λ_=>none):Env:=⟨λid=>if id<=n then some ⟨id,0,(match σ.get id with | some (.cells c _ _ _)=>c.length | _=>0),0⟩ else none,ro,λ_=>false⟩
structure TabAt (w:World) (g:Nat) (c:List AV):Prop where
 at':∃cs elem fr,w.heap[g]? = some (.cells cs elem fr)/\c.length<=cs.size/\RY c cs
theorem IX {σ:ak} {w:World} (hn:P.globals.size < σ.next) (UJ:∀id o,σ.get id=some o->id<=P.globals.size/\∃c,o=.cells c 0 false false/\TabAt w id c) {ro:Nat->Option Obj} (hro:∀b o,ro b=some o->w.heap[b]? = some o) (htab:∀p∈aF.tabs,AQ (uQ P.globals.size σ ro) p.1 p.2):SR P (uQ P.globals.size σ ro) σ w:=by
 refine ⟨λg hg=>?_,λid q hq=>?_,λid o ho=>?_,λ_ hg=>(by cases hg),λid o id' o' q q' h1 h2 h3 hne=>?_,hro,λid o q h1 h2 _=>?_,htab⟩;rotate_right
 ·obtain ⟨_,c,rfl,_⟩:=UJ id o h1
  cases h2
 ·exact ⟨_,_,by simp only [uQ];rw [aj hg]⟩
 ·simp only [uQ] at hq
  split at hq
  ·omega
  ·cases hq
 ·obtain ⟨hid,c,rfl,⟨cs,elem,fr,hb,hl,hk⟩⟩:=UJ id o ho
  refine .inl ⟨⟨id,0,c.length,0⟩, ?_,cs,elem,fr,hb, ?_⟩
  ·simp only [uQ];rw [aj hid,ho]
  ·refine ⟨by simpa using hl,dD _,λ_=>rfl,λk a ha=>?_,(λh=>by cases h),λh=>absurd rfl h,(λh=>by cases h)⟩
   obtain ⟨x,hx,hv⟩:=hk.1 k a ha;exact ⟨x,by simpa using hx,aer 4 a x hv⟩
 ·obtain ⟨_,c,rfl,_⟩:=UJ id o h1
  cases h2
theorem apa {w:World} {name:String} {k:IntKind} {zs:List Int} {g:Nat} (h:Lib.TabIs P w name k zs) (hg:P.globalNamed name=some g) (hz:zs.isEmpty=false:=by rfl):TabAt w g (zs.map λz=>.i k z):=by
 unfold Lib.TabIs World.var? at h;rw [hg] at h;simp only [zk] at h;split at h
 ·next cs elem fr hb=>
  cases h;refine ⟨_,_,_,hb,by simp,λi a ha=>?_,λ_=>by simp,λh=>by simp at h;rw [h] at hz;cases hz⟩;simp only [iq,aW] at ha;obtain ⟨z,hz,rfl⟩:=ha;exact ⟨.int k z,by simp [hz],rfl⟩
 ·cases h
def Wl (k:IntKind) (n:Nat) (f:Nat->Int):DataW Unit:=.agg ((List.range n).map λi=>.agg ([f (2 * i),f (2 * i+1)].map λz=>.lit (.int k z)))
theorem apb {w:World} {name:String} {k:IntKind} {n:Nat} {f:Nat->Int} {g:Nat} {t e:TypeId} {fs:Array Field} (h:Lib.VarReads P w name (Wl k n f)) (hg:P.globalNamed name=some g)
 (hty:(P.globals[g]?).map (·.type)=some t) (ht:P.underlying t=some (.array n e)) (he:P.underlying e=some (.struct fs))
 (hf:∀ (m:Nat) (fl:Field),fs[m]? = some fl->P.underlying fl.type=some (.int k)/\fl.offset=m/\P.cellsOf fl.type=1) (hfs:fs.size=2)
 (hce:P.cellsOf e=2) (hct:P.cellsOf t=2 * n) (hn:n≠0:=by decide):TabAt w g ((List.range (2 * n)).map λj=>.i k (f j)):=by
 obtain ⟨g',t',cs,fuel,p,hg',aju,hvar,hd⟩:=h;obtain rfl:=C9 (hg.symm.trans hg');obtain rfl:=C9 (hty.symm.trans aju);have hlen:cs.toList.length=2 * n:=by
  cases fuel with
  | zero=>simp [DataW.trod] at hd
  | succ fuel=>
    simp only [DataW.trod,ht] at hd;split at hd
    ·next hl=>rw [<- hct];exact hl
    ·cases hd
 have hcell:∀j,j < 2 * n->cs[j]? = some (.int k (f j)):=by
  intro j hj;obtain ⟨fuel',d,q,hdi,he'⟩:=Lib.array_elem ht hd (j / 2) (by omega);simp only [iq,YC (show j / 2 < n by omega),gG,aT] at hdi;subst hdi;rw [hce] at he';have hcs:=Lib.ints_of_struct he hf (by rw [hce,hfs]) he';have e0:=rC (·[0]?) hcs;have e1:=rC (·[1]?) hcs;simp [pz] at e0 e1;by_cases hm:j % 2=0
  ·have:j / 2 * 2=j:=by omega
   rw [this] at e0;rw [e0];congr 3;omega
  ·have:j / 2 * 2+1=j:=by omega
   rw [this] at e1;rw [e1];congr 3;omega
 unfold World.var? at hvar;rw [hg] at hvar;simp only [zk] at hvar;split at hvar
 ·next cs' elem fr hb=>
  cases hvar;refine ⟨_,_,_,hb,by simp at hlen ⊢;omega,λj a ha=>?_,λ_=>by simp at hlen ⊢;omega,λh=>by simp at h;omega⟩;simp only [iq,aW] at ha;obtain ⟨m,hm,rfl⟩:=ha;have hjl:j < 2 * n:=by
   have:=(dR.1 hm).1;simpa using this
  rw [YC hjl] at hm;cases hm;exact ⟨_,hcell j hjl,rfl⟩
 ·cases hvar
theorem amj {H:Type} {enc:TypeId×Value->H} {f:Func} {s:ChangeSpec} {apart fresh handsOn again:Bool} {W W':World} {args:Array Value} {v:Value} {ds gs:List (DataW H)} {before pa pv:List MemPlace}
 (hW:DataW.Whole enc P f.params.toList s.vars apart W args.toList ds gs before)
 (hres:∀ (b:Nat) (sp:Nat->Bool) (hd:Bool),DataW.TrodAll enc P W' b sp hd f.resultTypes.toList (v.resultList f.resultTypes.size) (s.fn H (ds++gs)).results [])
 (hargs:∀sp:Nat->Bool,(∀p∈before,sp p.block=true)->DataW.TrodAll enc P W' 0 sp true f.params.toList args.toList (s.fn H (ds++gs)).args pa)
 (hvars:∀sp:Nat->Bool,(∀p∈before,sp p.block=true)->DataW.TrodVars enc P W' sp s.vars (s.fn H (ds++gs)).vars pv)
 (hps:before=pa++pv) (hk:Kept W W')
 (hok:∀ (j:Nat) (t:TypeId) (r:Value),f.resultTypes[j]? = some t->(v.resultList f.resultTypes.size)[j]? = some r->Value.okWide P W' .any 0 t r) :
 s.post enc P f apart fresh handsOn again W args v W':=by
 have hold:∀p∈before,(λb=>decide (b < W.heap.size)) p.block=true:=λp hp=>by simpa using hW.lt p hp
 have hlt:=λp hp=>hW.lt p hp;refine ⟨ds,gs,before,[],pa,pv,hW,hres _ _ _,hargs _ hold,hvars _ hold,World.keptBut_mono (λp hp=>⟨hp, ?_⟩) (hk.but (·∈before)),λ_=>?_⟩
 ·rw [hps,kV] at hp
  exact Or.inr hp
 ·obtain ⟨_,_,_,_,_,hz,hn⟩:=hW
  refine ⟨hok,_,_,([]++pa)++pv,⟨[]++pa,pv,trodAll_append (hargs _ (λ_ _=>rfl)) (hres _ _ _),hvars _ (λ_ _=>rfl),rfl, ?_, ?_⟩, ?_⟩
  ·intro b off hp
   have hp':MemPlace.cell b off∈before:=by rw [hps];simpa using hp
   have hb:=hlt _ hp';rw [hk.frozen ⟨b,off,none⟩ hb];exact hz b off hp'
  ·intro ha
   have:=hn ha;rw [hps] at this;simpa using this
  ·intro p hp _
   rw [hps];simpa using hp
end
end Go.aN
namespace Go.aN
set_option linter.unusedSimpArgs false
noncomputable section
variable [aF]
set_option linter.unusedSectionVars false
variable {P:Program}
theorem jT.mono {f:FuncId} {args:Array Value} {w:World} {R R':Value->World->Prop} (h:jT P f args w R) (hR:∀v w',R v w'->R' v w'):jT P f args w R':=by
 rcases h with ⟨v,w',h1,h2⟩ | ⟨h1,h2⟩
 ·exact .inl ⟨v,w',h1,hR v w' h2⟩
 ·refine .inr ⟨h1,Calls.mono' h2 ?_⟩
  rintro e w' ⟨v,he,hr⟩
  exact ⟨v,he,hR v w' hr⟩
theorem St.acT {η:Env} {σ:ak} {w w':World} (h:SR P η σ w) (hk:Kept w w'):St P η σ w η σ w':=by
 refine ⟨Env.le.refl _,⟨h.kR,h.dom,λid o ho=>?_,h.jf,h.sep,λb o hb=>(hk.keep b (tu (h.iI b o hb))).trans (h.iI b o hb),h.jQ,h.tabs⟩,hk.size,λbl hb _=>hk.keep bl hb,λid o q h1 h2 h3 h4=>.inr ⟨id,o,q,h1,h2,h3,h4,rfl⟩,hk.os,hk.tape,hk.output,rfl,dD _,λ_ h=>.inl h,λ_ h=>.inl h⟩;exact (h.live id o ho).heap λq _ hr=>hk.keep _ hr.lt
theorem AQ.at {η:Env} {σ:ak} {w:World} (h:SR P η σ w) {g:Nat} {c:List AV} (ht:AQ η g c):TabAt w g c:=by
 obtain ⟨cs,elem,fr,h1,h2,h3⟩:=ht;exact ⟨cs,elem,fr,h.iI _ _ h1,h2,h3⟩
def xR (σ0:ak) (n:Nat):Prop:=n < σ0.next/\∀id o,σ0.get id=some o->∃c,o=.cells c 0 false false/\(id,c)∈aF.tabs/\id<=n
theorem SR.QV {η:Env} {σ σ0:ak} {w:World} (h:SR P η σ w) (h0:xR σ0 P.globals.size):SR P (uQ P.globals.size σ0 η.ro) σ0 w:=
 IX h0.1 (λid o ho=>by
  obtain ⟨c,rfl,hm,hle⟩:=h0.2 id o ho;exact ⟨hle,c,rfl,(h.tabs _ hm).at h⟩) h.iI (λp hp=>by
   obtain ⟨cs,elem,fr,h1,h2⟩:=h.tabs p hp;exact ⟨cs,elem,fr,h1,h2⟩)
theorem xR.own {σ0:ak} {n:Nat} (h:xR σ0 n):∀id o,σ0.get id=some o->o.own=false:=by
 intro id o ho;obtain ⟨c,rfl,_⟩:=h.2 id o ho;rfl
def Eo:eP:=λargs σ=>match args with
 | []=>some (.b true,σ)
 | _=>none
theorem alo {call:Caller} {f:FuncId} {σ0 σ':ak} (hcall:oV P call) (h0:xR σ0 P.globals.size) (hrun:call f [] σ0=some (.b true,σ')):dY P f Eo:=by
 intro args σ r σ1 hs η w vs hS hv;unfold Eo at hs;split at hs
 ·cases hs
  simp only [ay] at hv;subst hv;refine jT.mono (hcall f [] σ0 _ _ hrun _ w [] (hS.QV h0) rfl) ?_;rintro v w' ⟨η',hst,hr⟩
  refine ⟨η,St.acT hS (hst.kept h0.own), ?_⟩;simp only [VR] at hr ⊢;exact hr
 ·cases hs
end
end Go.aN
namespace Go.aN
set_option linter.unusedSimpArgs false
noncomputable section
variable [aF]
set_option linter.unusedSectionVars false
set_option linter.unusedVariables false
variable {P:Program}
theorem VR.ground {η η':Env} {a:AV} {v:Value} (ha:a.under 0=true) (h:VR η a v) (hro:∀b o,η.ro b=some o->η'.ro b=some o):VR η' a v:=
 VR.mono (η:=η.cut 0) ⟨λid q hq=>by simp [Env.cut] at hq,hro,λid hg=>by simp [Env.cut] at hg⟩ a v (VR.cut a v ha h)
theorem ay.ground {η η':Env} {l:List AV} {vs:List Value} (ha:AV.mP 0 l=true) (h:ay η l vs) (hro:∀b o,η.ro b=some o->η'.ro b=some o):ay η' l vs:=
 ay.mono (η:=η.cut 0) ⟨λid q hq=>by simp [Env.cut] at hq,hro,λid hg=>by simp [Env.cut] at hg⟩ l vs (ay.cut l vs ha h)
def grp (agg:Bool) (size:Nat):Nat->List AV->List AV
 | 0,_=>[]
 | n+1,cs=>(if agg then .agg (cs.take size) else cs.headD .jq)::grp agg size n (cs.drop size)
def DU (agg:Bool) (size:Nat):Nat->List Value->List Value
 | 0,_=>[]
 | n+1,cs=>(if agg then .agg ⟨cs.take size⟩ else cs.headD undef)::DU agg size n (cs.drop size)
theorem Ur (agg:Bool) (size:Nat):∀ (n:Nat) (l:List AV),(grp agg size n l).length=n
 | 0,_=>rfl
 | n+1,l=>by simp [grp,Ur agg size n]
theorem aa8 {η:Env} {agg:Bool} {size:Nat} (h1:agg=false->size=1):∀ (n:Nat) (l:List AV) (xs:List Value),ay η l xs->l.length=n * size->l.all AV.lu=true->
 ay η (grp agg size n l) (DU agg size n xs)/\(∀x∈DU agg size n xs,x.cells.size=size)/\cO (DU agg size n xs)=xs
 | 0,l,xs,hv,hl,_=>by
   have:xs=[]:=by
    apply jh;rw [<- hv.length,hl];exact Nat.zero_mul _
   subst this;simp [grp,DU,ay,cO]
 | n+1,l,xs,hv,hl,hone=>by
   have hlen:=hv.length;rw [pG,CY] at hl;have ih:=aa8 h1 n (l.drop size) (xs.drop size) (hv.drop size) (by simp;omega) (by
    rw [List.all_eq_true] at hone ⊢;exact λa ha=>hone a (AL ha))
   cases agg with
   | true=>
     simp only [grp,DU,if_true];refine ⟨ay.cons (by simp only [VR];exact ⟨_,rfl,hv.take size⟩) ih.1, ?_, ?_⟩
     ·intro x hx
      rcases bU.1 hx with rfl | hx
      ·have:=hlen;simp [Value.cells];try omega
      ·exact ih.2.1 x hx
     ·have:=ih.2.2
      simp only [cO,ji] at this ⊢;rw [this];simp [Value.cells]
   | false=>
     have hs:=h1 rfl;subst hs;cases l with
     | nil=>simp at hl
     | cons a l=>
       simp only [ay] at hv;obtain ⟨x,ys,rfl,h2,h3⟩:=hv;have ha:=List.all_eq_true.1 hone a (by simp);have hx1:=VZ h2 ha;have hxc:x.cells = #[x]:=by cases x<;>simp [nK] at hx1<;>rfl
       simp only [grp,DU,gU,if_false,List.headD_cons];simp only [Iw,eH] at ih ⊢;refine ⟨ay.cons h2 ih.1, ?_, ?_⟩
       ·intro y hy
        rcases bU.1 hy with rfl | hy
        ·rw [hxc];rfl
        ·exact ih.2.1 y hy
       ·have:=ih.2.2
        simp only [cO,ji] at this ⊢;rw [this,hxc];rfl
def rF (P:Program) (σ:ak):Nat->AV->Option AV
 | 0,_=>none
 | n+1,a=>
   match a with
   | .sl id off len _=>
     if len=0 then some (.ro []) else
     match σ.get id with
     | some (.cells c et true _)=>
       match sizeT P et,mD P et with
       | some size,some agg=>
         if (agg=true/\0 < size)\/size=1 then
          match takeN c off (len * size) with
          | some cs=>match qJ (rF P σ n) cs with
            | some ds=>if ds.all AV.lu then some (.ro (grp agg size len ds)) else none
            | none=>none
          | none=>none
         else none
       | _,_=>none
     | _=>none
   | .dL=>some (.ro [])
   | .agg l=>(qJ (rF P σ n) l).map .agg
   | .dM l=>(qJ (rF P σ n) l).map .dM
   | .dS t x=>(rF P σ n x).map (.dS t)
   | a=>if a.under 0 then some a else none
theorem alg {η η':Env} {f:AV->Option AV} (hf:∀a r v,f a=some r->VR η a v->VR η' r v) {l r:List AV} {vs:List Value} (h:qJ f l=some r) (hv:ay η l vs):ay η' r vs:=by
 obtain ⟨h1,h2⟩:=Hf h;refine ay.of (by rw [<- h1];exact hv.length) λk a hk=>?_;have hlt:k < l.length:=by have:=(dR.1 hk).1;omega
 obtain ⟨y,hy,hfy⟩:=h2 k _ (bP hlt);rw [hk] at hy;cases hy;obtain ⟨x,hx,jF⟩:=hv.at (bP hlt);exact ⟨x,hx,hf _ _ _ hfy jF⟩
theorem aiw {η η':Env} {σ:ak} {w:World} {N:Nat} (h:SR P η σ w) (hown:∀id o q,σ.get id=some o->o.own=true->η id=some q->N<=q.bl)
 (hro:∀b o,η.ro b=some o->η'.ro b=some o) (hnew:∀b o,N<=b->w.heap[b]? = some o->η'.ro b=some o):∀ (n:Nat) (a r:AV) (v:Value),rF P σ n a=some r->VR η a v->VR η' r v:=by
 intro n;induction n with
 | zero=>intro a r v hf;simp [rF] at hf
 | succ n ih=>
   intro a r v hf hv;have lst:∀ (l r:List AV) (vs:List Value),qJ (rF P σ n) l=some r->ay η l vs->ay η' r vs:=λl r vs h1 h2=>alg ih h1 h2;unfold rF at hf;split at hf
   ·next id off len cap=>
    simp only [VR] at hv;obtain ⟨q,hq,hle,rfl⟩:=hv;split at hf
    ·next h0=>cases hf;subst h0;exact KZ
    ·next h0=>
     split at hf
     ·next c et opn hg=>
      split at hf
      ·next size agg hs ha=>
       split at hf
       ·next hsz=>
        split at hf
        ·next cs hcs=>
         split at hf
         ·next ds hds=>
          split at hf
          ·next hone=>
           cases hf;obtain ⟨q',hq',ws,elem,fr,hb,rr⟩:=h.obj _ _ hg rfl;rw [hq] at hq';cases hq';have hfull:=lst _ _ _ hds (rr.wC hcs);have hl1:=(oO hcs).2.1;have hl2:=(Hf hds).1;have hsz1:agg=false->size=1:=λe=>hsz.elim (λh=>absurd (h.1.symm.trans e) (by simp)) (λh=>h);obtain ⟨g1,g2,g3⟩:=aa8 hsz1 len ds _ hfull (by rw [<- hl2,hl1]) hone;have hfit:=rr.take hcs;have hfl:=hfull.length;simp only [VR];right;refine ⟨q.bl,q.ba+off,_,_,size,by rw [Ur],by rw [Ur];exact hle,g1,g2,λ_=>⟨ws,elem,fr,hnew _ _ (hown id _ q hg rfl hq) hb, ?_, ?_⟩⟩
           ·rw [g3];rw [<- hfl,<- hl2,hl1];have:0 < len * size:=IK (by omega) (by omega);omega
           ·rw [g3]
            intro k x hk;rw [kF] at hk;split at hk
            ·rw [pz,rY] at hk;exact hk
            ·cases hk
          ·cases hf
         ·cases hf
        ·cases hf
       ·cases hf
      ·cases hf
     ·cases hf
   ·cases hf
    simp only [VR] at hv ⊢;exact .inl ⟨trivial,_,hv⟩
   ·simp only [aW] at hf
    obtain ⟨l',hl,rfl⟩:=hf;simp only [VR] at hv ⊢;obtain ⟨vs,rfl,hv⟩:=hv;exact ⟨vs,rfl,lst _ _ _ hl hv⟩
   ·simp only [aW] at hf
    obtain ⟨l',hl,rfl⟩:=hf;simp only [VR] at hv ⊢;obtain ⟨vs,rfl,hv⟩:=hv;exact ⟨vs,rfl,lst _ _ _ hl hv⟩
   ·simp only [aW] at hf
    obtain ⟨x',hx,rfl⟩:=hf;simp only [VR] at hv ⊢;obtain ⟨y,rfl,hv⟩:=hv;exact ⟨y,rfl,ih _ _ _ hx hv⟩
   ·split at hf
    ·next hu=>cases hf;exact VR.ground hu hv hro
    ·cases hf
structure Base where
 w:World
 hole:Nat->Prop
 anch:Nat->Option Place
structure L9 (b:Base) (W':World):Prop where
 os:W'.os=b.w.os
 tape:W'.tape=b.w.tape
 output:W'.output=b.w.output
 size:b.w.heap.size<=W'.heap.size
 keep:∀bl,bl < b.w.heap.size->¬ b.hole bl->W'.heap[bl]? = b.w.heap[bl]?
def Base.shut (w:World):Base:=⟨w,λ_=>False,λ_=>none⟩
structure jg (P:Program) (w0:Base) (dh:Nat->Option Obj) (η:Env) (σ:ak) (w:World):Prop where
 rel:SR P η σ w
 kept:L9 w0 w
 own:∀id o q,σ.get id=some o->o.own=true->η id=some q->w0.w.heap.size<=q.bl\/w0.hole q.bl
 qK:∀b o,dh b=some o->η.ro b=some o
 oh:∀b,η.ro b≠none->dh b≠none\/w0.w.heap.size<=b\/w0.hole b
 mX:∀i q,w0.anch i=some q->η i=some q/\P.globals.size < i/\i<=P.globals.size+fV.ka
theorem Kept.refl (w:World):Kept w w:=⟨rfl,rfl,rfl,dD _,λ_ _=>rfl⟩
theorem jg.start {η:Env} {σ:ak} {w:World} (h:SR P η σ w) (hno:∀id o,σ.get id=some o->o.own=false):jg P (.shut w) η.ro η σ w:=
 ⟨h,⟨rfl,rfl,rfl,dD _,λ_ _ _=>rfl⟩,λid o q h1 h2=>(by rw [hno id o h1] at h2;cases h2),λ_ _ h=>h,λ_ h=>.inl h,λ_ _ h=>by cases h⟩
theorem L9.shut {w w':World} (h:L9 (.shut w) w'):Kept w w':=⟨h.os,h.tape,h.output,h.size,λbl hb=>h.keep bl hb (λe=>e)⟩
theorem jg.alk {w:World} {dh:Nat->Option Obj} {η:Env} {σ:ak} {w':World} (h:jg P (.shut w) dh η σ w'):∀id o q,σ.get id=some o->o.own=true->η id=some q->w.heap.size<=q.bl:=by
 intro id o q a b c;rcases h.own id o q a b c with h1 | h1
 ·exact h1
 ·cases h1
theorem jg.adL {w:World} {dh:Nat->Option Obj} {η:Env} {σ:ak} {w':World} (h:jg P (.shut w) dh η σ w'):∀b,η.ro b≠none->dh b≠none\/w.heap.size<=b:=by
 intro b hb;rcases h.oh b hb with h1 | h1 | h1
 ·exact .inl h1
 ·exact .inr h1
 ·cases h1
theorem jg.step {w0:Base} {dh:Nat->Option Obj} {η η':Env} {σ σ':ak} {w w':World} (h:jg P w0 dh η σ w) (hl:σ.lock=0) (k:St P η σ w η' σ' w'):jg P w0 dh η' σ' w':=by
 refine ⟨k.rel,⟨k.os.trans h.kept.os,k.tape.trans h.kept.tape,k.output.trans h.kept.output,iF h.kept.size k.size,λbl hb hh=>?_⟩,λid o q h1 h2 h3=>?_,λb o hb=>k.ext.ro b o (h.qK b o hb),λb hb=>?_,λi q hi=>⟨k.ext.pl _ _ (h.mX i q hi).1,(h.mX i q hi).2⟩⟩
 ·rw [k.keep bl (uF hb h.kept.size) (λid o q a1 a2 _ a4=>by
   rcases h.own id o q a1 a2 a4 with h1 | h1
   ·omega
   ·intro e;rw [e] at h1;exact hh h1)]
  exact h.kept.keep bl hb hh
 ·rcases k.own id o q h1 h2 (by rw [hl];exact uG _) h3 with h4 | ⟨dn,o0,q0,a,b,_,d,e⟩
  ·exact .inl (iF h.kept.size h4)
  ·rw [<- e];exact h.own dn o0 q0 a b d
 ·rcases k.oh b hb with h1 | h1 | ⟨dn,o0,q0,a1,b1,c1,d1,e1⟩
  ·exact h.oh b h1
  ·exact .inr (.inl (iF h.kept.size h1))
  ·right;rw [<- e1];exact h.own dn o0 q0 a1 b1 d1
def Fn (P:Program) (f:FuncId) (args:List AV) (R:AV->Prop):Prop:=∀η σ w vs,SR P η σ w->ay η args vs->jT P f ⟨vs⟩ w λv w'=>∃η' r,R r/\St P η σ w η' σ w'/\VR η' r v
theorem jg.freeze {η η1:Env} {σ σ1:ak} {w w1:World} (hS:SR P η σ w) (h:jg P (.shut w) η.ro η1 σ1 w1) {n:Nat} {r r':AV} {v:Value} (hf:rF P σ1 n r=some r') (hv:VR η1 r v) :
 ∃η',St P η σ w η' σ w1/\VR η' r' v:=by
 let ro':Nat->Option Obj:=λb=>if b < w.heap.size then η.ro b else w1.heap[b]?
 have hlt:∀b o,η.ro b=some o->b < w.heap.size:=λb o hb=>tu (hS.iI b o hb);have hle:(η:Env).le ⟨η.pl,ro',η.gh⟩:=⟨λ_ _ h=>h,λb o hb=>by show (if _ then _ else _)=_;rw [aj (hlt b o hb)];exact hb,λ_ h=>h⟩
 have ajl:∀b o,η1.ro b=some o->ro' b=some o:=by
  intro b o hb;show (if _ then _ else _)=_
  split
  ·next hb2=>
   rcases h.adL b (by rw [hb];simp) with h1 | h1
   ·cases he:η.ro b with
    | none=>exact absurd he h1
    | some o2=>have:=h.qK b o2 he;rw [hb] at this;exact this.symm
   ·omega
  ·exact h.rel.iI b o hb
 refine ⟨⟨η.pl,ro',η.gh⟩, ?_,aiw (N:=w.heap.size) h.rel h.alk ajl (λb o hb ho=>by show (if _ then _ else _)=_;rw [ah (by omega)];exact ho) n r r' v hf hv⟩;have hk:=h.kept.shut;refine ⟨hle,⟨hS.kR,hS.dom,λid o ho=>?_,hS.jf,hS.sep,λb o hb=>?_,λid o q a1 a2 a3=>?_,λp hp=>(hS.tabs p hp).mono hle⟩,hk.size,λbl hb _=>hk.keep bl hb,λid o q h1 h2 h3 h4=>.inr ⟨id,o,q,h1,h2,h3,h4,rfl⟩,hk.os,hk.tape,hk.output,rfl,dD _,λ_ h=>.inl h,λb hb=>?_⟩
 ·exact ((hS.live id o ho).heap λq _ hr=>hk.keep _ hr.lt).mono hle
 ·have hb':(if b < w.heap.size then η.ro b else w1.heap[b]?)=some o:=hb
  split at hb'
  ·next hl=>rw [hk.keep b hl];exact hS.iI b o hb'
  ·exact hb'
 ·have hr:=hS.at a1 (show η id=some q from a3)
  show (if q.bl < w.heap.size then η.ro q.bl else w1.heap[q.bl]?)=none
  rw [aj hr.lt];exact hS.jQ id o q a1 a2 a3
 ·have hb':(if b < w.heap.size then η.ro b else w1.heap[b]?)≠none:=hb
  split at hb'
  ·exact .inl hb'
  ·next hl=>right;left;omega
theorem Fn.acS {call:Caller} {f:FuncId} {σ0 σ':ak} {args:List AV} {r r':AV} (hcall:oV P call) (h0:xR σ0 P.globals.size) (hl:σ0.lock=0) (ha:AV.mP 0 args=true) (hrun:call f args σ0=some (r,σ')) (n:Nat) (hf:rF P σ' n r=some r'):Fn P f args (· = r'):=by
 intro η σ w vs hS hv;have hS0:=hS.QV h0;refine jT.mono (hcall f args σ0 _ _ hrun _ w vs hS0 (ay.ground ha hv (λ_ _ h=>h))) ?_;rintro v w' ⟨η1,hst,hr⟩
 have hF:=(jg.start hS0 h0.own).step hl hst;obtain ⟨η',h1,h2⟩:=hF.freeze (η:=η) hS hf hr;exact ⟨η',r',rfl,h1,h2⟩
theorem dY.ak8 {f:FuncId} {g:List AV->Option AV} (h:∀args r,g args=some r->Fn P f args (· = r)):dY P f λargs σ=>(g args).map (·,σ):=by
 intro args σ r σ' hs η w vs hS hv;simp only [aW,jV] at hs;obtain ⟨r0,hg,rfl,rfl⟩:=hs;refine jT.mono (h args r0 hg η σ w vs hS hv) ?_;rintro v w' ⟨η',r,rfl,h1,h2⟩
 exact ⟨η',h1,h2⟩
end
end Go.aN
