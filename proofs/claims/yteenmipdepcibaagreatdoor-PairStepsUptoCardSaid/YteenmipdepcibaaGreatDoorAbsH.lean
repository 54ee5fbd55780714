/- Functions without a Go body: what the model does at them, for the evaluator. -/
import Derived.Test.YteenmipdepcibaaGreatDoorAbsG
import Derived.Laws.Externs
import Derived.Lib.LaidU8
import Derived.ChangeSame
set_option linter.unusedSimpArgs false
set_option linter.unusedSectionVars false
set_option linter.unusedVariables false
namespace Go.aN
noncomputable section
variable[aH]
variable{P:Program}{F:Env}{J J':aA}{w:World}
abbrev dX:=Q3->aA->Option (AV×aA)
abbrev W1:=List (FuncId×dX)
def dN(P:Program)(f:FuncId)(g:dX):Prop:=∀args J r J',g args J=some (r,J')->∀F w vs,SR P F J w->aC F args vs->
 kQ P f ⟨vs⟩ w λv w'=>∃F',St P F J w F' J' w'/\VR F' r v
def Qg:W1->Tr dX
 |[]=>.nil
 |(k,g)::l=>(Qg l).set k (some g)
def aaH(l:W1):xg:=(Qg l).get
theorem ajh:∀{l:W1}{f:FuncId}{g:dX},(Qg l).get f=some g->(f,g)∈l
 |[],f,g,h=>by simp[Qg]at h
 |(k,u)::l,f,g,h=>by
  rw[Qg,Tr.vY]at h;split at h
  ·next e=>cases h;subst e;simp
  ·exact wY _ (ajh h)
theorem ahR{l:W1}(h:∀p∈l,dN P p.1 p.2):QH P (aaH l):=λf g hg=>h (f,g) (ajh hg)
structure Ext(P:Program)(f:FuncId)(e:QQ->Sem Value):Prop where
 call:∀args w,(callFunc f args).run P w=((e args).run P w).andThen λv w'=>.ok (.value v) w'
theorem Ext.mk'{f:FuncId}{fn:Func}{e:QQ->Sem Value}(hf:P.funcs[f]? =some fn)(hname:(fn.name == "runtime.NumGoroutine")=false)
 (hb:fn.body.isNone=true) (hn:Extern.findNext fn=none) (he:Extern.find fn=some e):Ext P f e:=⟨λargs w=>run_callFunc_extern hf hname hb hn he args w⟩
theorem Ext.Ci{f:FuncId}{e:QQ->Sem Value}(h:Ext P f e){args:QQ}{R:Value->World->Prop}(hr:∃v w',(e args).run P w=.ok v w'/\R v w'):kQ P f args w R:=by obtain⟨v,w',h1,h2⟩:=hr;exact .inl ⟨v,w',by rw[h.call,h1];rfl,h2⟩
def Px:dX:=λl J=>match l with|[x]=>some (x,J)|_=>none
theorem ahj{f:FuncId}(h:Ext P f Extern.AbiNoEscape.same):dN P f Px:=by
 intro args J r J' hs F w vs hS hv;unfold Px at hs;split at hs
 ·cases hs;simp only[aC]at hv;obtain⟨x,_,rfl,hx,rfl⟩:=hv;exact h.Ci ⟨x,w,rfl,F,St.refl hS,hx⟩
 ·cases hs
def XR(a b:Q0):Int:=Extern.BytealgCompare.cmp ⟨⟨a⟩⟩ ⟨⟨b⟩⟩
def ZW:dX:=λl J=>match l with|[.s a,.s b]=>some (.i .i64 (XR a b),J)|_=>none
theorem auV{f:FuncId}(h:Ext P f Extern.BytealgCompare.compare):dN P f ZW:=by
 intro args J r J' hs F w vs hS hv;unfold ZW at hs;split at hs
 ·cases hs;simp only[aC,VR]at hv;obtain⟨x,_,rfl,rfl,y,_,rfl,rfl,rfl⟩:=hv;refine h.Ci ⟨_,w,rfl,F,St.refl hS,by simp only[VR];rfl⟩
 ·cases hs
def ZU:dX:=λl J=>match l with
 |[.i .u64 x,.i .u64 y,.i .u64 c]=>if 0<=x/\0<=y/\0<=c/\c<=1 then some (.dP [.i .u64 ((x+y+c)%18446744073709551616),.i .u64 ((x+y+c)/18446744073709551616)],J)else none
 |_=>none
theorem auR{f:FuncId}(h:Ext P f add64Entry):dN P f ZU:=by
 intro args J r J' hs F w vs hS hv;unfold ZU at hs;split at hs
 ·next x y c=>
  split at hs
  ·next hc=>
   cases hs;obtain⟨h1,h2,h3,h4⟩:=hc;simp only[aC,VR]at hv;obtain⟨_,_,rfl,rfl,_,_,rfl,rfl,_,_,rfl,rfl,rfl⟩:=hv;have hrun:=run_add64 (P:=P) x y c h1 h2 h3 h4 w;refine h.Ci ⟨_,w,hrun,F,St.refl hS,?_⟩;simp only[VR];refine⟨_,rfl,aC.cons ?_ (aC.cons ?_ (by simp[aC]))⟩<;>simp only[VR]<;>congr 1
  ·cases hs
 ·cases hs
def Z5(P:Program):dX:=λl J=>match l with
 |[.iW t a]=>match pY P (Extern.Rtype.kind t)with
  |some k=>some (.agg [.p P.globals.size t,.p J.next 0,.i .u64 ((k+128:Nat):Int)],J.new (.cells a.cells t true false))
  |none=>none
 |_=>none
theorem afq(h:SR P F J w)(t:TypeId):VR F (.p P.globals.size t) (typeHandle P t):=by obtain⟨sz,es,h1⟩:=h.mg P.globals.size (bV _);simp only[VR];exact⟨_,h1,by simp[typeHandle]⟩
theorem au0{f:FuncId}(h:Ext P f (λargs=>Extern.ReflectliteValue.unpack (args.getD 0 (.tuple #[])))):dN P f (Z5 P):=by
 intro args J r J' hs F w vs hS hv;unfold Z5 at hs;split at hs
 ·next t a=>
  split at hs
  ·next k hk=>
   cases hs;simp only[aC,VR]at hv;obtain⟨_,_,rfl,⟨x,rfl,hx⟩,rfl⟩:=hv;obtain⟨y,w',F',h1,h2,h3⟩:=ada (t:=t) hS hx;simp only[VR]at h3;obtain⟨q,hq,rfl⟩:=h3;have h1':(newVar t x).run P w=.ok ⟨q.bl,q.ba+0,none⟩ w':=by
    simp only[Instr.box,aS]at h1;cases hn:(newVar t x).run P w with
    |ok ad w2=>rw[hn]at h1;simp only[aQ,bF,Result.ok.injEq,Value.pointer.injEq,aW]at h1;obtain⟨rfl,rfl⟩:=h1;rfl
    |halt e w2=>rw[hn]at h1;simp at h1
   refine h.Ci ⟨.agg #[typeHandle P t,.pointer (some ⟨q.bl,q.ba+0,none⟩),.int .u64 ((k+128:Nat):Int)],w',?_,F',h2,?_⟩
   ·show(Extern.ReflectliteValue.unpack (.iface t x)).run P w=_
    simp only[Extern.ReflectliteValue.unpack,Extern.ReflectliteValue.mk,aS,h1',aQ,Extern.Rtype.handle,program,Sem.run,bF,Bf hk w'];rfl
   ·simp only[VR];exact⟨_,rfl,aC.cons (by simpa only[VR]using afq h2.rel t) (aC.cons (by simp only[VR];exact⟨q,hq,rfl⟩) (aC.cons (by simp only[VR]) (by simp[aC])))⟩
  ·cases hs
 ·cases hs
def ZX(P:Program):dX:=λl J=>match l with
 |[.agg [.p g t,.p id off,.i .u64 f]]=>
  if g=P.globals.size/\0<f/\f.toNat%32=23 then
   match pY P (Extern.Rtype.noPack "a Value asked or handed on" t),pY P (Extern.Rtype.under t),vN P t J (.p id off)with
   |some _,some (_,i),some v=>match i.desc with
    |.slice _=>(QS P J t v).map λn=>(n,J)
    |_=>none
   |_,_,_=>none
  else none
 |_=>none
theorem aft(t:TypeId){id:Nat}{x:Value}(hS:SR P F J w)(hg:id=P.globals.size)(h:VR F (.p id t) x):x=typeHandle P t:=by subst hg;obtain⟨sz,es,h1⟩:=hS.mg P.globals.size (bV _);simp only[VR]at h;obtain⟨q,hq,rfl⟩:=h;rw[h1]at hq;cases hq;simp[typeHandle]
theorem ZK(t:TypeId):(Extern.Rtype.ofHandle (typeHandle P t)).run P w=.ok t w:=by simp[Extern.Rtype.ofHandle,handleType,typeHandle,program,Sem.run]
theorem auX{f:FuncId}(h:Ext P f (Extern.ReflectliteValue.method (Extern.ReflectliteValue.valueError "reflectlite.Value.Len" 0) Extern.ReflectliteValue.len)):dN P f (ZX P):=by
 intro args J r J' hs F w vs hS hv;unfold ZX at hs;split at hs
 ·next g t id off fl=>
  split at hs
  ·next hc=>
   obtain⟨hg,hpos,hk⟩:=hc;split at hs
   ·next u u2 i v h1 h2 h3=>
    split at hs
    ·next e hd=>
     simp only[aZ,nR]at hs;obtain⟨n,hn,rfl,rfl⟩:=hs;simp only[aC]at hv;obtain⟨_,_,rfl,hx,rfl⟩:=hv;rw[VR]at hx;obtain⟨ws,rfl,hx⟩:=hx;simp only[aC]at hx;obtain⟨a1,_,rfl,ha1,a2,_,rfl,ha2,a3,_,rfl,ha3,rfl⟩:=hx;have e1:=aft t hS hg ha1;subst e1;obtain⟨y,hy,uQ⟩:=E5 hS h3 ha2;simp only[VR]at ha2 ha3;obtain⟨q,hq,rfl⟩:=ha2;subst ha3;obtain⟨z,hz,wo⟩:=agj (ts:=#[t]) (ty:=0) hS rfl hn uQ;refine h.Ci ⟨z,w,?_,F,St.refl hS,wo⟩;have hfl:fl≠0:=by omega
     have hparts:(Extern.ReflectliteValue.parts (.agg #[typeHandle P t,.pointer (some ⟨q.bl,q.ba+off,none⟩),.int .u64 fl])).run P w=.ok (some (t,⟨q.bl,q.ba+off,none⟩,fl.toNat)) w:=by
      have hany:(Extern.ReflectliteValue.partsAny (.agg #[typeHandle P t,.pointer (some ⟨q.bl,q.ba+off,none⟩),.int .u64 fl])).run P w=.ok (some (t,⟨q.bl,q.ba+off,none⟩,fl.toNat)) w:=by
       have hd:Extern.ReflectliteValue.partsAny (.agg #[typeHandle P t,.pointer (some ⟨q.bl,q.ba+off,none⟩),.int .u64 fl])=(do pure (some (<-Extern.Rtype.ofHandle (typeHandle P t),⟨q.bl,q.ba+off,none⟩,fl.toNat))):=by
        obtain⟨m,rfl⟩:∃m:Nat,fl=((m+1:Nat):Int):=⟨fl.toNat-1,by omega⟩
        rfl
       rw[hd];simp only[aS,ZK,aQ,bF]
      unfold Extern.ReflectliteValue.parts;simp only[aS,hany,aQ,Bf h1 w,bF]
     have hlen:(Extern.ReflectliteValue.len t ⟨q.bl,q.ba+off,none⟩ fl.toNat (fl.toNat%32)).run P w=.ok z w:=by
      unfold Extern.ReflectliteValue.len;have hy':(loadVar t ⟨q.bl,q.ba+off,none⟩).run P w=.ok y w:=by simpa[Instr.loadAt,Instr.sureAddr]using hy
      rw[hk];have hcont:(!([17,18,21,23,24]:Q2).contains 23)=false:=rfl;simp only[hcont,iO,if_false,aS,Bf h2 w,aQ,hd,hy',hz]
     show(Extern.ReflectliteValue.method _ _ #[_]).run P w=_
     have hm:Extern.ReflectliteValue.method (Extern.ReflectliteValue.valueError "reflectlite.Value.Len" 0) Extern.ReflectliteValue.len #[.agg #[typeHandle P t,.pointer (some ⟨q.bl,q.ba+off,none⟩),.int .u64 fl]]=(do
      match <-Extern.ReflectliteValue.parts (.agg #[typeHandle P t,.pointer (some ⟨q.bl,q.ba+off,none⟩),.int .u64 fl])with
      |none=>Extern.ReflectliteValue.valueError "reflectlite.Value.Len" 0
      |some (t,a,fl)=>Extern.ReflectliteValue.len t a fl (fl%32)):=rfl
     rw[hm];simp only[aS,hparts,aQ];exact hlen
    ·cases hs
   ·cases hs
  ·cases hs
 ·cases hs
def agi:AV->Option Nat
 |.fV=>some 0
 |.sl _ _ n _=>some n
 |_=>none
def Qa:YY->Nat->Option FuncId
 |[],_=>none
 |(j,f)::l,k=>bif Nat.beq k j then some f else Qa l k
theorem ai2:∀{tab:YY}{k:Nat}{f:FuncId},Qa tab k=some f->(k,f)∈tab
 |[],k,f,h=>by simp[Qa]at h
 |(j,g)::l,k,f,h=>by
  unfold Qa at h;cases hb:Nat.beq k j with
  |true=>rw[hb]at h;cases h;rw[bD hb];exact Qz
  |false=>rw[hb]at h;exact wY _ (ai2 h)
def acG(P:Program)(tab:YY):Prop:=∀p∈tab,P.funcs.findIdx? (·.name == "internal/reflectlite" ++ ".Swapper$" ++toString p.1)=some p.2
def Z4(P:Program)(tab:YY):dX:=λl J=>match l with
 |[.iW t s]=>
  match pY P (Extern.Rtype.elem? t)with
  |some (some e)=>
   match agi s,P.info? e,pY P (Extern.Rtype.kind e)with
   |some n,some i,some kd=>
    let k:Nat:=
     if n==0 then 1 else if n==1 then 2
     else if i.hasPointers&&i.bytes==8 then 3
     else if i.hasPointers&&(kd==24)then 4
     else if i.hasPointers then 9
     else match i.bytes with|8=>5|4=>6|2=>7|1=>8|_=>9
    match Qa tab k with
    |some f=>some (.fn f [] (if k<=2 then[]else[s,.p P.globals.size e]),J)
    |none=>none
   |_,_,_=>none
  |_=>none
 |_=>none
theorem azW(pkg:String)(noSlice:Nat->Sem Value)(t:TypeId)(s:Value):Extern.ReflectliteSwapper.swapper pkg noSlice #[.iface t s]=(do
 let(.slice _ n _,some e):=(s,<-Extern.Rtype.elem? t)|noSlice (<-Extern.Rtype.kind t)
 let i <-typeInfo e
 let isString:=(<-Extern.Rtype.kind e)==24
 let k:Nat:=
  if n==0 then 1 else if n==1 then 2
  else if i.hasPointers&&i.bytes==8 then 3
  else if i.hasPointers&&isString then 4
  else if i.hasPointers then 9
  else match i.bytes with|8=>5|4=>6|2=>7|1=>8|_=>9
 let h <-Extern.Rtype.handle e
 Extern.ReflectliteSwapper.literal pkg k (if k<=2 then #[]else #[s,h])):=rfl
theorem auZ{f:FuncId}(h:Ext P f (Extern.ReflectliteSwapper.swapper "internal/reflectlite" (Extern.ReflectliteValue.valueError "Swapper"))){tab:YY}(htab:acG P tab):dN P f (Z4 P tab):=by
 intro args J r J' hs F w vs hS hv;unfold Z4 at hs;split at hs
 ·next t s=>
  split at hs
  ·next e he=>
   split at hs
   ·next n i kd hn hi hk=>
    simp only at hs;split at hs
    ·next fi hfi=>
     cases hs;simp only[aC,VR]at hv;obtain⟨_,_,rfl,⟨x,rfl,hx⟩,rfl⟩:=hv;have hsl:∃a c,x=.slice a n c:=by
      cases s<;>simp[agi]at hn
      ·subst hn;simp only[VR]at hx;exact⟨_,_,hx⟩
      ·subst hn;simp only[VR]at hx;obtain⟨q,_,_,rfl⟩:=hx;exact⟨_,_,rfl⟩
     obtain⟨a,c,rfl⟩:=hsl;generalize hkk:(if(n==0)=true then 1 else if(n==1)=true then 2 else if(i.hasPointers&&i.bytes==8)=true then 3 else if(i.hasPointers&&(kd==24))=true then 4 else if i.hasPointers=true then 9 else match i.bytes with|8=>5|4=>6|2=>7|1=>8|_=>9:Nat)=k at *;have hfi:=htab _ (ai2 hfi);refine h.Ci ⟨.func (.func fi) #[] (if k<=2 then #[]else #[.slice a n c,typeHandle P e]),w,?_,F,St.refl hS,?_⟩
     ·show(Extern.ReflectliteSwapper.swapper "internal/reflectlite" _ #[.iface t (.slice a n c)]).run P w=_
      have hd:=azW "internal/reflectlite" (Extern.ReflectliteValue.valueError "Swapper") t (.slice a n c);rw[hd];simp only[aS,Bf he w,aQ,FI hi,Bf hk w,Extern.Rtype.handle,program,Sem.run,bF,hkk,Extern.ReflectliteSwapper.literal,hfi]
     ·simp only[VR];by_cases h2:k<=2
      ·simp only[h2,if_true];exact⟨[],[],rfl,by simp[aC],by simp[aC]⟩
      ·simp only[h2,if_false];exact⟨[],[_,_],rfl,by simp[aC],aC.cons hx (aC.cons (afq hS e) (by simp[aC]))⟩
    ·cases hs
   ·cases hs
  ·cases hs
 ·cases hs
def Du(P:Program):dX:=λl J=>match l with
 |[.i .i64 i,.i .i64 j,.sl id off n cap,.p g e]=>
  if g=P.globals.size/\0<=i/\i<n/\0<=j/\j<n then
   match sizeT P e with
   |some size=>
    match vN P e J (.p id (off+i.toNat*size)),vN P e J (.p id (off+j.toNat*size))with
    |some x,some y=>match Ei P e J (.p id (off+i.toNat*size)) y with
     |some J1=>match Ei P e J1 (.p id (off+j.toNat*size)) x with
      |some J2=>some (.dP [],J2)
      |none=>none
     |none=>none
    |_,_=>none
   |none=>none
  else none
 |_=>none
theorem agl{t:TypeId}{b:Bool}{ad:Addr}{y:Value}(h:(Instr.loadAt t (.pointer (some ad))).run P w=.ok y w):(loadVar t ad).run P w=.ok y w:=by simpa[Instr.loadAt,Instr.sureAddr]using h
theorem aiY{t:TypeId}{ad:Addr}{y:Value}{w':World}(h:(Instr.storeAt t (.pointer (some ad)) y).run P w=.ok () w'):(storeVar t ad y).run P w=.ok () w':=by simpa[Instr.storeAt,Instr.sureAddr]using h
theorem I4{f:FuncId}{b:Bool}(h:Ext P f (Extern.ReflectliteSwapper.swap b)):dN P f (Du P):=by
 intro args J r J' hs F w vs hS hv;unfold Du at hs;split at hs
 ·next i j id off n cap g e=>
  split at hs
  ·next hc=>
   obtain⟨hg,hi0,hin,hj0,hjn⟩:=hc;split at hs
   ·next size hsz=>
    split at hs
    ·next x y hx hy=>
     split at hs
     ·next J1 hs1=>
      split at hs
      ·next J2 hs2=>
       cases hs;simp only[aC]at hv;obtain⟨v1,_,rfl,h1,v2,_,rfl,h2,v3,_,rfl,h3,v4,_,rfl,h4,rfl⟩:=hv;have e4:=aft e hS hg h4;subst e4;simp only[VR]at h1 h2 h3;subst h1;subst h2;obtain⟨q,hq,hle,rfl⟩:=h3;have pi:VR F (.p id (off+i.toNat*size)) (.pointer (some ⟨q.bl,q.ba+(off+i.toNat*size),none⟩)):=by simp only[VR];exact⟨q,hq,rfl⟩
       have pj:VR F (.p id (off+j.toNat*size)) (.pointer (some ⟨q.bl,q.ba+(off+j.toNat*size),none⟩)):=by simp only[VR];exact⟨q,hq,rfl⟩
       obtain⟨u,hu,hvu⟩:=E5 hS hx pi;obtain⟨u',hu',asf⟩:=E5 hS hy pj;obtain⟨w1,hst1,hS1⟩:=VE hS hs1 pi asf;have pj1:VR F (.p id (off+j.toNat*size)) (.pointer (some ⟨q.bl,q.ba+(off+j.toNat*size),none⟩)):=pj;obtain⟨w2,hst2,hS2⟩:=VE hS1.rel hs2 pj1 hvu;refine h.Ci ⟨.tuple #[],w2,?_,F,hS1.trans hS2,by simp only[VR];exact⟨[],rfl,by simp[aC]⟩⟩;have hex:(Extern.ReflectliteSwapper.exchange e ⟨q.bl,q.ba+off,none⟩ i.toNat j.toNat).run P w=.ok (.tuple #[]) w2:=by unfold Extern.ReflectliteSwapper.exchange;have a1:=agl (b:=true) hu;have a2:=agl (b:=true) hu';have a3:=aiY hst1;have a4:=aiY hst2;simp only[aS,iY hsz,aQ,qw,jL,a1,a2,a3,a4,bF]
       have t1:¬(i<0\/i>=n):=by omega
       have t2:¬(j<0\/j>=n):=by omega
       show(Extern.ReflectliteSwapper.swap b #[.int .i64 i,.int .i64 j,.slice (some ⟨q.bl,q.ba+off,none⟩) n _,typeHandle P e]).run P w=_
       cases b
       ·have hd:∀c,Extern.ReflectliteSwapper.swap false #[.int .i64 i,.int .i64 j,.slice (some ⟨q.bl,q.ba+off,none⟩) n c,typeHandle P e]=(do
         if i<0 ||i>=n ||j<0 ||j>=n then Extern.ReflectliteSwapper.outOfRange
         Extern.ReflectliteSwapper.exchange (<-Extern.Rtype.ofHandle (typeHandle P e)) ⟨q.bl,q.ba+off,none⟩ i.toNat j.toNat):=λ_=>rfl
        rw[hd];have t3:(decide (i<0) ||decide (i>=n) ||decide (j<0) ||decide (j>=n))=false:=by simp;omega
        simp only[t3,iO,if_false,aS,ZK,aQ,hex]
       ·have hd:∀c,Extern.ReflectliteSwapper.swap true #[.int .i64 i,.int .i64 j,.slice (some ⟨q.bl,q.ba+off,none⟩) n c,typeHandle P e]=(do
         if i<0 ||i>=n then boundsPanic .i64 i n .index
         if j<0 ||j>=n then boundsPanic .i64 j n .index
         Extern.ReflectliteSwapper.exchange (<-Extern.Rtype.ofHandle (typeHandle P e)) ⟨q.bl,q.ba+off,none⟩ i.toNat j.toNat):=λ_=>rfl
        rw[hd];have t3:(decide (i<0) ||decide (i>=n))=false:=by simp;omega
        have t4:(decide (j<0) ||decide (j>=n))=false:=by simp;omega
        simp only[t3,t4,iO,if_false,aS,ZK,aQ,hex]
      ·cases hs
     ·cases hs
    ·cases hs
   ·cases hs
  ·cases hs
 ·cases hs
end
noncomputable section
variable[aH]
variable{P:Program}
open Go.Extern.BytealgMakeNoZero
end
noncomputable section
variable[aH]
open Go.ChangeShapes Go.WideShapes
variable{P:Program}
theorem acU{a b:Bool}(ha:a=true)(hb:b=true):(a&&b)=true:=by rw[ha,hb];rfl
structure Kept(W W':World):Prop where
 os:W'.os=W.os
 tape:W'.tape=W.tape
 output:W'.output=W.output
 size:W.heap.size<=W'.heap.size
 keep:∀bl,bl<W.heap.size->W'.heap[bl]? =W.heap[bl]?
theorem Kept.but{W W':World}(h:Kept W W')(m:MemPlace->Prop):W.keptBut W' m:=by
 refine⟨h.os,h.output,λi hi=>?_⟩;rw[h.keep i hi];cases hw:W.heap[i]? with
 |none=>trivial
 |some o=>cases o<;>first|exact⟨rfl,rfl,rfl,λ_ _=>rfl⟩|exact .inr ⟨rfl,rfl⟩|rfl
theorem Kept.frozen{W W':World}(h:Kept W W')(a:Addr)(ha:a.block<W.heap.size):W'.frozen? a=W.frozen? a:=by unfold World.frozen?;rw[h.keep _ ha]
theorem St.kept{F F':Env}{J J':aA}{w w':World}(h:St P F J w F' J' w')(hno:∀id o,J.get id=some o->o.own=false):Kept w w':=
 ⟨h.os,h.tape,h.output,h.size,λbl hb=>h.keep bl hb λid o q h1 h2 _ _=>by rw[hno id o h1]at h2;cases h2⟩
theorem kQ.calls{f:FuncId}{fn:Func}{c:Code}{args:QQ}{w:World}{R:Value->World->Prop}(hn:vI P)(hf:P.funcs[f]? =some fn)(hc:fn.body=some c)
 (h:kQ P f args w R):Calls P f args w λe w'=>∃v,e=.returned v/\R v w':=by
 rcases h with⟨v,w',h,_⟩|⟨_,h⟩
 ·have hname:=hn f fn c hf hc;simp only[callFunc,aS,program,Sem.run,aQ,hf]at h;simp only[hname,iO,if_false,hc,JU,bF]at h;cases h
 ·exact h
theorem Calls.mono'{f:FuncId}{args:QQ}{w:World}{R R':Ending->World->Prop}(h:Calls P f args w R)(hR:∀e w',R e w'->R' e w'):Calls P f args w R':=by intro cs;obtain⟨e,w',fr,h1,h2⟩:=h cs;exact⟨e,w',fr,hR e w' h1,h2⟩
theorem asE{f:FuncId}{fn:Func}{c:Code}{args:Q3}{vs:Q6}{w:World}{F:Env}{J J':aA}{r:AV}{call:Caller}(hcall:qH P call)(hn:vI P)(hf:P.funcs[f]? =some fn)(hc:fn.body=some c)
 (hrun:call f args J=some (r,J')) (hS:SR P F J w) (hv:aC F args vs) (hno:∀id o,J.get id=some o->o.own=false):
 Calls P f ⟨vs⟩ w λe w'=>∃v,e=.returned v/\(∃F',VR F' r v)/\Kept w w':=
 Calls.mono' (kQ.calls hn hf hc (hcall f args J r J' hrun F w vs hS hv)) λ_ _ ⟨v,he,F',hst,hr⟩=>⟨v,he,⟨F',hr⟩,hst.kept hno⟩
def uO(n:Nat)(J:aA)(ro:Nat->Option Obj:=λ_=>none):Env:=⟨λid=>if id<=n then some ⟨id,0,(match J.get id with|some (.cells c _ _ _)=>c.length|_=>0),0⟩else none,ro,λ_=>false⟩
structure TabAt(w:World)(g:Nat)(c:Q3):Prop where
 at':∃cs elem fr,w.heap[g]? =some (.cells cs elem fr)/\c.length<=cs.size/\W9 c cs
theorem JW{J:aA}{w:World}(hn:P.globals.size<J.next)(YU:∀id o,J.get id=some o->id<=P.globals.size/\∃c,o=.cells c 0 false false/\TabAt w id c){ro:Qf}(hro:∀b o,ro b=some o->w.heap[b]? =some o)(htab:∀p∈aH.tabs,Ee (uO P.globals.size J ro) p.1 p.2):SR P (uO P.globals.size J ro) J w:=by
 refine⟨λg hg=>?_,λid q hq=>?_,λid o ho=>?_,λ_ hg=>(by cases hg),λid o id' o' q q' h1 h2 h3 hne=>?_,hro,λid o q h1 h2 _=>?_,htab⟩;rotate_right
 ·obtain⟨_,c,rfl,_⟩:=YU id o h1;cases h2
 ·exact⟨_,_,by simp only[uO];rw[aj hg]⟩
 ·simp only[uO]at hq;split at hq
  ·omega
  ·cases hq
 ·obtain⟨hid,c,rfl,⟨cs,elem,fr,hb,hl,hk⟩⟩:=YU id o ho;refine .inl ⟨⟨id,0,c.length,0⟩,?_,cs,elem,fr,hb,?_⟩
  ·simp only[uO];rw[aj hid,ho]
  ·refine⟨by simpa using hl,bV _,λ_=>rfl,λk a ha=>?_,(λh=>by cases h),λh=>absurd rfl h,(λh=>by cases h)⟩;obtain⟨x,hx,hv⟩:=hk.1 k a ha;exact⟨x,by simpa using hx,hv.vr⟩
 ·obtain⟨_,c,rfl,_⟩:=YU id o h1;cases h2
theorem aAc{w:World}{name:String}{k:IntKind}{zs:List Int}{g:Nat}(h:Lib.TabIs P w name k zs)(hg:P.globalNamed name=some g)(hz:zs.isEmpty=false:=by rfl):TabAt w g (zs.map λz=>.i k z):=by
 unfold Lib.TabIs World.var? at h;rw[hg]at h;simp only[yQ]at h;split at h
 ·next cs elem fr hb=>
  cases h;refine⟨_,_,_,hb,by simp,λi a ha=>?_,λ_=>by simp,λh=>by simp at h;rw[h]at hz;cases hz⟩;simp only[iP,aZ]at ha;obtain⟨z,hz,rfl⟩:=ha;exact⟨.int k z,by simp[hz],.inl rfl⟩
 ·cases h
def Z7(k:IntKind)(n:Nat)(f:Nat->Int):DataW Unit:=.agg ((List.range n).map λi=>.agg ([f (2*i),f (2*i+1)].map λz=>.lit (.int k z)))
theorem aAd{w:World}{name:String}{k:IntKind}{n:Nat}{f:Nat->Int}{g:Nat}{t e:TypeId}{fs:Array Field}(h:Lib.VarReads P w name (Z7 k n f))(hg:P.globalNamed name=some g)
 (hty:(P.globals[g]?).map (·.type)=some t) (ht:P.underlying t=some (.array n e)) (he:P.underlying e=some (.struct fs))
 (hf:∀(m:Nat)(fl:Field),fs[m]? =some fl->P.underlying fl.type=some (.int k)/\fl.offset=m/\P.cellsOf fl.type=1) (hfs:fs.size=2)
 (hce:P.cellsOf e=2) (hct:P.cellsOf t=2*n) (hn:n≠0:=by decide):TabAt w g ((List.range (2*n)).map λj=>.i k (f j)):=by
 obtain⟨g',t',cs,fuel,p,hg',ar2,hvar,hd⟩:=h;obtain rfl:=Gj (hg.symm.trans hg');obtain rfl:=Gj (hty.symm.trans ar2);have hlen:cs.toList.length=2*n:=by
  cases fuel with
  |zero=>simp[DataW.trod]at hd
  |succ fuel=>
   simp only[DataW.trod,ht]at hd;split at hd
   ·next hl=>rw[<-hct];exact hl
   ·cases hd
 have hcell:∀j,j<2*n->cs[j]? =some (.int k (f j)):=by
  intro j hj;obtain⟨fuel',d,q,hdi,he'⟩:=Lib.array_elem ht hd (j/2) (by omega);simp only[iP,ach (show j/2<n by omega),gI,aW]at hdi;subst hdi;rw[hce]at he';have hcs:=Lib.ints_of_struct he hf (by rw[hce,hfs]) he';have e0:=uK (·[0]?) hcs;have e1:=uK (·[1]?) hcs;simp[ru]at e0 e1;by_cases hm:j%2=0
  ·have:j/2*2=j:=by omega
   rw[this]at e0;rw[e0];congr 3;omega
  ·have:j/2*2+1=j:=by omega
   rw[this]at e1;rw[e1];congr 3;omega
 unfold World.var? at hvar;rw[hg]at hvar;simp only[yQ]at hvar;split at hvar
 ·next cs' elem fr hb=>
  cases hvar;refine⟨_,_,_,hb,by simp at hlen⊢;omega,λj a ha=>?_,λ_=>by simp at hlen⊢;omega,λh=>by simp at h;omega⟩;simp only[iP,aZ]at ha;obtain⟨m,hm,rfl⟩:=ha;have hjl:j<2*n:=by have:=(eU.1 hm).1;simpa using this
  rw[ach hjl]at hm;cases hm;exact⟨_,hcell j hjl,.inl rfl⟩
 ·cases hvar
theorem avN{H:Type}{enc:TypeId×Value->H}{f:Func}{s:ChangeSpec}{apart fresh handsOn again:Bool}{W W':World}{args:QQ}{v:Value}{ds gs:List (DataW H)}{before pa pv:List MemPlace}
 (hW:DataW.Whole enc P f.params.toList s.vars apart W args.toList ds gs before)
 (hres:∀(b:Nat)(sp:Nat->Bool)(hd:Bool),DataW.TrodAll enc P W' b sp hd f.resultTypes.toList (v.resultList f.resultTypes.size) (s.fn H (ds++gs)).results [])
 (hargs:∀sp:Nat->Bool,(∀p∈before,sp p.block=true)->DataW.TrodAll enc P W' 0 sp true f.params.toList args.toList (s.fn H (ds++gs)).args pa)
 (hvars:∀sp:Nat->Bool,(∀p∈before,sp p.block=true)->DataW.TrodVars enc P W' sp s.vars (s.fn H (ds++gs)).vars pv)
 (hps:before=pa++pv) (hk:Kept W W')
 (hok:∀(j:Nat)(t:TypeId)(r:Value),f.resultTypes[j]? =some t->(v.resultList f.resultTypes.size)[j]? =some r->Value.okWide P W' .any 0 t r):
 s.post enc P f apart fresh handsOn again W args v W':=by
 have hold:∀p∈before,(λb=>decide (b<W.heap.size)) p.block=true:=λp hp=>by simpa using hW.lt p hp
 have hlt:=λp hp=>hW.lt p hp;refine⟨ds,gs,before,[],pa,pv,hW,hres _ _ _,hargs _ hold,hvars _ hold,World.keptBut_mono (λp hp=>⟨hp,?_⟩) (hk.but (·∈before)),λ_=>?_⟩
 ·rw[hps,kG]at hp;exact Or.inr hp
 ·obtain⟨_,_,_,_,_,hz,hn⟩:=hW;refine⟨hok,_,_,([]++pa)++pv,⟨[]++pa,pv,trodAll_append (hargs _ (λ_ _=>rfl)) (hres _ _ _),hvars _ (λ_ _=>rfl),rfl,?_,?_⟩,?_⟩
  ·intro b off hp;have hp':MemPlace.cell b off∈before:=by rw[hps];simpa using hp
   have hb:=hlt _ hp';rw[hk.frozen ⟨b,off,none⟩ hb];exact hz b off hp'
  ·intro ha;have:=hn ha;rw[hps]at this;simpa using this
  ·intro p hp _;rw[hps];simpa using hp
end
noncomputable section
variable[aH]
variable{P:Program}
theorem kQ.mono{f:FuncId}{args:QQ}{w:World}{R R':Value->World->Prop}(h:kQ P f args w R)(hR:∀v w',R v w'->R' v w'):kQ P f args w R':=by
 rcases h with⟨v,w',h1,h2⟩|⟨h1,h2⟩
 ·exact .inl ⟨v,w',h1,hR v w' h2⟩
 ·refine .inr ⟨h1,Calls.mono' h2 ?_⟩;rintro e w' ⟨v,he,hr⟩
  exact⟨v,he,hR v w' hr⟩
theorem St.UR{F:Env}{J:aA}{w w':World}(h:SR P F J w)(hk:Kept w w'):St P F J w F J w':=by refine⟨Env.le.refl _,⟨h.mg,h.dom,λid o ho=>?_,h.jH,h.sep,λb o hb=>(hk.keep b (uP (h.iT b o hb))).trans (h.iT b o hb),h.kN,h.tabs⟩,hk.size,λbl hb _=>hk.keep bl hb,λid o q h1 h2 h3 h4=>.inr ⟨id,o,q,h1,h2,h3,h4,rfl⟩,hk.os,hk.tape,hk.output,rfl,bV _,λ_ h=>.inl h,λ_ h=>.inl h⟩;exact(h.live id o ho).heap λq _ hr=>hk.keep _ hr.lt
theorem Ee.at{F:Env}{J:aA}{w:World}(h:SR P F J w){g:Nat}{c:Q3}(ht:Ee F g c):TabAt w g c:=by obtain⟨cs,elem,fr,h1,h2,h3⟩:=ht;exact⟨cs,elem,fr,h.iT _ _ h1,h2,h3⟩
def yR(J0:aA)(n:Nat):Prop:=n<J0.next/\∀id o,J0.get id=some o->∃c,o=.cells c 0 false false/\(id,c)∈aH.tabs/\id<=n
theorem SR.VX{F:Env}{J J0:aA}{w:World}(h:SR P F J w)(h0:yR J0 P.globals.size):SR P (uO P.globals.size J0 F.ro) J0 w:=
 JW h0.1 (λid o ho=>by obtain⟨c,rfl,hm,hle⟩:=h0.2 id o ho;exact⟨hle,c,rfl,(h.tabs _ hm).at h⟩) h.iT (λp hp=>by obtain⟨cs,elem,fr,h1,h2⟩:=h.tabs p hp;exact⟨cs,elem,fr,h1,h2⟩)
theorem yR.own{J0:aA}{n:Nat}(h:yR J0 n):∀id o,J0.get id=some o->o.own=false:=by intro id o ho;obtain⟨c,rfl,_⟩:=h.2 id o ho;rfl
def IZ:dX:=λargs J=>match args with
 |[]=>some (.b true,J)
 |_=>none
theorem auU{call:Caller}{f:FuncId}{J0 J':aA}(hcall:qH P call)(h0:yR J0 P.globals.size)(hrun:call f [] J0=some (.b true,J')):dN P f IZ:=by
 intro args J r J1 hs F w vs hS hv;unfold IZ at hs;split at hs
 ·cases hs;simp only[aC]at hv;subst hv;refine kQ.mono (hcall f [] J0 _ _ hrun _ w [] (hS.VX h0) rfl) ?_;rintro v w' ⟨F',hst,hr⟩
  refine⟨F,St.UR hS (hst.kept h0.own),?_⟩;simp only[VR]at hr⊢;exact hr
 ·cases hs
theorem VR.ground{F F':Env}{a:AV}{v:Value}(ha:a.under 0=true)(h:VR F a v)(hro:∀b o,F.ro b=some o->F'.ro b=some o):VR F' a v:=
 VR.mono (F:=F.cut 0) ⟨λid q hq=>by simp[Env.cut]at hq,hro,λid hg=>by simp[Env.cut]at hg⟩ a v (VR.cut a v ha h)
theorem aC.ground{F F':Env}{l:Q3}{vs:Q6}(ha:AV.oZ 0 l=true)(h:aC F l vs)(hro:∀b o,F.ro b=some o->F'.ro b=some o):aC F' l vs:=
 aC.mono (F:=F.cut 0) ⟨λid q hq=>by simp[Env.cut]at hq,hro,λid hg=>by simp[Env.cut]at hg⟩ l vs (aC.cut l vs ha h)
def grp(agg:Bool)(size:Nat):Nat->List AV->List AV
 |0,_=>[]
 |n+1,cs=>(if agg then .agg (cs.take size)else cs.headD .jr)::grp agg size n (cs.drop size)
def Hr(agg:Bool)(size:Nat):Nat->List Value->List Value
 |0,_=>[]
 |n+1,cs=>(if agg then .agg ⟨cs.take size⟩else cs.headD undef)::Hr agg size n (cs.drop size)
theorem YD(agg:Bool)(size:Nat):∀(n:Nat)(l:Q3),(grp agg size n l).length=n
 |0,_=>rfl
 |n+1,l=>by simp[grp,YD agg size n]
theorem afj{F:Env}{agg:Bool}{size:Nat}(h1:agg=false->size=1):∀(n:Nat)(l:Q3)(xs:Q6),aC F l xs->l.length=n*size->l.all AV.nH=true->
 aC F (grp agg size n l) (Hr agg size n xs)/\(∀x∈Hr agg size n xs,x.cells.size=size)/\bY (Hr agg size n xs)=xs
 |0,l,xs,hv,hl,_=>by
  have:xs=[]:=by apply jw;rw[<-hv.length,hl];exact Nat.zero_mul _
  subst this;simp[grp,Hr,aC,bY]
 |n+1,l,xs,hv,hl,hone=>by
  have hlen:=hv.length;rw[qM,Gh]at hl;have ih:=afj h1 n (l.drop size) (xs.drop size) (hv.drop size) (by simp;omega) (by rw[List.all_eq_true]at hone⊢;exact λa ha=>hone a (Nr ha))
  cases agg with
  |true=>
   simp only[grp,Hr,if_true];refine⟨aC.cons (by simp only[VR];exact⟨_,rfl,hv.take size⟩) ih.1,?_,?_⟩
   ·intro x hx;rcases bG.1 hx with rfl|hx
    ·have:=hlen;simp[Value.cells];try omega
    ·exact ih.2.1 x hx
   ·have:=ih.2.2;simp only[bY,jC]at this⊢;rw[this];simp[Value.cells]
  |false=>
   have hs:=h1 rfl;subst hs;cases l with
   |nil=>simp at hl
   |cons a l=>
    simp only[aC]at hv;obtain⟨x,ys,rfl,h2,h3⟩:=hv;have ha:=List.all_eq_true.1 hone a (by simp);have hx1:=ZO h2 ha;have hxc:x.cells =#[x]:=by cases x<;>simp[nZ]at hx1<;>rfl
    simp only[grp,Hr,iO,if_false,List.headD_cons];simp only[WE,dD]at ih⊢;refine⟨aC.cons h2 ih.1,?_,?_⟩
    ·intro y hy;rcases bG.1 hy with rfl|hy
     ·rw[hxc];rfl
     ·exact ih.2.1 y hy
    ·have:=ih.2.2;simp only[bY,jC]at this⊢;rw[this,hxc];rfl
def rJ(P:Program)(J:aA):Nat->AV->Option AV
 |0,_=>none
 |n+1,a=>
  match a with
  |.sl id off len _=>
   if len=0 then some (.ro [])else
   match J.get id with
   |some (.cells c et true _)=>
    match sizeT P et,nI P et with
    |some size,some agg=>
     if(agg=true/\0<size)\/size=1 then
      match takeN c off (len*size)with
      |some cs=>match tZ (rJ P J n) cs with
       |some ds=>if ds.all AV.nH then some (.ro (grp agg size len ds))else none
       |none=>none
      |none=>none
     else none
    |_,_=>none
   |_=>none
  |.fV=>some (.ro [])
  |.agg l=>(tZ (rJ P J n) l).map .agg
  |.dP l=>(tZ (rJ P J n) l).map .dP
  |.iW t x=>(rJ P J n x).map (.iW t)
  |a=>if a.under 0 then some a else none
theorem auK{F F':Env}{f:AV->Option AV}(hf:∀a r v,f a=some r->VR F a v->VR F' r v){l r:Q3}{vs:Q6}(h:tZ f l=some r)(hv:aC F l vs):aC F' r vs:=by
 obtain⟨h1,h2⟩:=LD h;refine aC.of (by rw[<-h1];exact hv.length) λk a hk=>?_;have hlt:k<l.length:=by have:=(eU.1 hk).1;omega
 obtain⟨y,hy,hfy⟩:=h2 k _ (bK hlt);rw[hk]at hy;cases hy;obtain⟨x,hx,kJ⟩:=hv.at (bK hlt);exact⟨x,hx,hf _ _ _ hfy kJ⟩
theorem aqr{F F':Env}{J:aA}{w:World}{N:Nat}(h:SR P F J w)(hown:∀id o q,J.get id=some o->o.own=true->F id=some q->N<=q.bl)
 (hro:∀b o,F.ro b=some o->F'.ro b=some o) (hnew:∀b o,N<=b->w.heap[b]? =some o->F'.ro b=some o):∀(n:Nat)(a r:AV)(v:Value),rJ P J n a=some r->VR F a v->VR F' r v:=by
 intro n;induction n with
 |zero=>intro a r v hf;simp[rJ]at hf
 |succ n ih=>
  intro a r v hf hv;have lst:∀(l r:Q3)(vs:Q6),tZ (rJ P J n) l=some r->aC F l vs->aC F' r vs:=λl r vs h1 h2=>auK ih h1 h2;unfold rJ at hf;split at hf
  ·next id off len cap=>
   simp only[VR]at hv;obtain⟨q,hq,hle,rfl⟩:=hv;split at hf
   ·next h0=>cases hf;subst h0;exact PU
   ·next h0=>
    split at hf
    ·next c et opn hg=>
     split at hf
     ·next size agg hs ha=>
      split at hf
      ·next hsz=>
       split at hf
       ·next cs hcs=>
        split at hf
        ·next ds hds=>
         split at hf
         ·next hone=>
          cases hf;obtain⟨q',hq',ws,elem,fr,hb,rr⟩:=h.obj _ _ hg rfl;rw[hq]at hq';cases hq';have hfull:=lst _ _ _ hds (rr.yF hcs);have hl1:=(qV hcs).2.1;have hl2:=(LD hds).1;have hsz1:agg=false->size=1:=λe=>hsz.elim (λh=>absurd (h.1.symm.trans e) (by simp)) (λh=>h);obtain⟨g1,g2,g3⟩:=afj hsz1 len ds _ hfull (by rw[<-hl2,hl1]) hone;have hfit:=rr.take hcs;have hfl:=hfull.length;simp only[VR];right;refine⟨q.bl,q.ba+off,_,_,size,by rw[YD],by rw[YD];exact hle,g1,g2,λ_=>⟨ws,elem,fr,hnew _ _ (hown id _ q hg rfl hq) hb,?_,?_⟩⟩
          ·rw[g3];rw[<-hfl,<-hl2,hl1];have:0<len*size:=Nw (by omega) (by omega);omega
          ·rw[g3];intro k x hk;rw[kS]at hk;split at hk
           ·rw[ru,vC]at hk;exact hk
           ·cases hk
         ·cases hf
        ·cases hf
       ·cases hf
      ·cases hf
     ·cases hf
    ·cases hf
  ·cases hf;simp only[VR]at hv⊢;exact .inl ⟨trivial,_,hv⟩
  ·simp only[aZ]at hf;obtain⟨l',hl,rfl⟩:=hf;simp only[VR]at hv⊢;obtain⟨vs,rfl,hv⟩:=hv;exact⟨vs,rfl,lst _ _ _ hl hv⟩
  ·simp only[aZ]at hf;obtain⟨l',hl,rfl⟩:=hf;simp only[VR]at hv⊢;obtain⟨vs,rfl,hv⟩:=hv;exact⟨vs,rfl,lst _ _ _ hl hv⟩
  ·simp only[aZ]at hf;obtain⟨x',hx,rfl⟩:=hf;simp only[VR]at hv⊢;obtain⟨y,rfl,hv⟩:=hv;exact⟨y,rfl,ih _ _ _ hx hv⟩
  ·split at hf
   ·next hu=>cases hf;exact VR.ground hu hv hro
   ·cases hf
structure Base where
 w:World
 hole:Nat->Prop
 anch:Nat->Option Place
structure Qw(b:Base)(W':World):Prop where
 os:W'.os=b.w.os
 tape:W'.tape=b.w.tape
 output:W'.output=b.w.output
 size:b.w.heap.size<=W'.heap.size
 keep:∀bl,bl<b.w.heap.size->¬b.hole bl->W'.heap[bl]? =b.w.heap[bl]?
def Base.shut(w:World):Base:=⟨w,λ_=>False,λ_=>none⟩
structure jK(P:Program)(w0:Base)(dK:Qf)(F:Env)(J:aA)(w:World):Prop where
 rel:SR P F J w
 kept:Qw w0 w
 own:∀id o q,J.get id=some o->o.own=true->F id=some q->w0.w.heap.size<=q.bl\/w0.hole q.bl
 uj:∀b o,dK b=some o->F.ro b=some o
 qg:∀b,F.ro b≠none->dK b≠none\/w0.w.heap.size<=b\/w0.hole b
 qO:∀i q,w0.anch i=some q->F i=some q/\P.globals.size<i/\i<=P.globals.size+gG.ka
theorem Kept.refl(w:World):Kept w w:=⟨rfl,rfl,rfl,bV _,λ_ _=>rfl⟩
theorem jK.start{F:Env}{J:aA}{w:World}(h:SR P F J w)(hno:∀id o,J.get id=some o->o.own=false):jK P (.shut w) F.ro F J w:=
 ⟨h,⟨rfl,rfl,rfl,bV _,λ_ _ _=>rfl⟩,λid o q h1 h2=>(by rw[hno id o h1]at h2;cases h2),λ_ _ h=>h,λ_ h=>.inl h,λ_ _ h=>by cases h⟩
theorem Qw.shut{w w':World}(h:Qw (.shut w) w'):Kept w w':=⟨h.os,h.tape,h.output,h.size,λbl hb=>h.keep bl hb (λe=>e)⟩
theorem jK.auQ{w:World}{dK:Qf}{F:Env}{J:aA}{w':World}(h:jK P (.shut w) dK F J w'):∀id o q,J.get id=some o->o.own=true->F id=some q->w.heap.size<=q.bl:=by
 intro id o q a b c;rcases h.own id o q a b c with h1|h1
 ·exact h1
 ·cases h1
theorem jK.aic{w:World}{dK:Qf}{F:Env}{J:aA}{w':World}(h:jK P (.shut w) dK F J w'):∀b,F.ro b≠none->dK b≠none\/w.heap.size<=b:=by
 intro b hb;rcases h.qg b hb with h1|h1|h1
 ·exact .inl h1
 ·exact .inr h1
 ·cases h1
theorem jK.step{w0:Base}{dK:Qf}{F F':Env}{J J':aA}{w w':World}(h:jK P w0 dK F J w)(hl:J.lock=0)(k:St P F J w F' J' w'):jK P w0 dK F' J' w':=by
 refine⟨k.rel,⟨k.os.trans h.kept.os,k.tape.trans h.kept.tape,k.output.trans h.kept.output,jD h.kept.size k.size,λbl hb hh=>?_⟩,λid o q h1 h2 h3=>?_,λb o hb=>k.ext.ro b o (h.uj b o hb),λb hb=>?_,λi q hi=>⟨k.ext.pl _ _ (h.qO i q hi).1,(h.qO i q hi).2⟩⟩
 ·rw[k.keep bl (wZ hb h.kept.size) (λid o q a1 a2 _ a4=>by
   rcases h.own id o q a1 a2 a4 with h1|h1
   ·omega
   ·intro e;rw[e]at h1;exact hh h1)]
  exact h.kept.keep bl hb hh
 ·rcases k.own id o q h1 h2 (by rw[hl];exact ql _) h3 with h4|⟨dJ,o0,q0,a,b,_,d,e⟩
  ·exact .inl (jD h.kept.size h4)
  ·rw[<-e];exact h.own dJ o0 q0 a b d
 ·rcases k.qg b hb with h1|h1|⟨dJ,o0,q0,a1,b1,c1,d1,e1⟩
  ·exact h.qg b h1
  ·exact .inr (.inl (jD h.kept.size h1))
  ·right;rw[<-e1];exact h.own dJ o0 q0 a1 b1 d1
def Fn(P:Program)(f:FuncId)(args:Q3)(R:AV->Prop):Prop:=∀F J w vs,SR P F J w->aC F args vs->kQ P f ⟨vs⟩ w λv w'=>∃F' r,R r/\St P F J w F' J w'/\VR F' r v
theorem jK.freeze{F F1:Env}{J J1:aA}{w w1:World}(hS:SR P F J w)(h:jK P (.shut w) F.ro F1 J1 w1){n:Nat}{r r':AV}{v:Value}(hf:rJ P J1 n r=some r')(hv:VR F1 r v):
 ∃F',St P F J w F' J w1/\VR F' r' v:=by
 let ro':Nat->Option Obj:=λb=>if b<w.heap.size then F.ro b else w1.heap[b]?
 have hlt:∀b o,F.ro b=some o->b<w.heap.size:=λb o hb=>uP (hS.iT b o hb);have hle:(F:Env).le ⟨F.pl,ro',F.gh⟩:=⟨λ_ _ h=>h,λb o hb=>by show(if _ then _ else _)=_;rw[aj (hlt b o hb)];exact hb,λ_ h=>h⟩
 have arT:∀b o,F1.ro b=some o->ro' b=some o:=by
  intro b o hb;show(if _ then _ else _)=_
  split
  ·next hb2=>
   rcases h.aic b (by rw[hb];simp)with h1|h1
   ·cases he:F.ro b with
    |none=>exact absurd he h1
    |some o2=>have:=h.uj b o2 he;rw[hb]at this;exact this.symm
   ·omega
  ·exact h.rel.iT b o hb
 refine⟨⟨F.pl,ro',F.gh⟩,?_,aqr (N:=w.heap.size) h.rel h.auQ arT (λb o hb ho=>by show(if _ then _ else _)=_;rw[ah (by omega)];exact ho) n r r' v hf hv⟩;have hk:=h.kept.shut;refine⟨hle,⟨hS.mg,hS.dom,λid o ho=>?_,hS.jH,hS.sep,λb o hb=>?_,λid o q a1 a2 a3=>?_,λp hp=>(hS.tabs p hp).mono hle⟩,hk.size,λbl hb _=>hk.keep bl hb,λid o q h1 h2 h3 h4=>.inr ⟨id,o,q,h1,h2,h3,h4,rfl⟩,hk.os,hk.tape,hk.output,rfl,bV _,λ_ h=>.inl h,λb hb=>?_⟩
 ·exact((hS.live id o ho).heap λq _ hr=>hk.keep _ hr.lt).mono hle
 ·have hb':(if b<w.heap.size then F.ro b else w1.heap[b]?)=some o:=hb;split at hb'
  ·next hl=>rw[hk.keep b hl];exact hS.iT b o hb'
  ·exact hb'
 ·have hr:=hS.at a1 (show F id=some q from a3);show(if q.bl<w.heap.size then F.ro q.bl else w1.heap[q.bl]?)=none
  rw[aj hr.lt];exact hS.kN id o q a1 a2 a3
 ·have hb':(if b<w.heap.size then F.ro b else w1.heap[b]?)≠none:=hb;split at hb'
  ·exact .inl hb'
  ·next hl=>right;left;omega
theorem Fn.ZL{call:Caller}{f:FuncId}{J0 J':aA}{args:Q3}{r r':AV}(hcall:qH P call)(h0:yR J0 P.globals.size)(hl:J0.lock=0)(ha:AV.oZ 0 args=true)(hrun:call f args J0=some (r,J'))(n:Nat)(hf:rJ P J' n r=some r'):Fn P f args (· =r'):=by
 intro F J w vs hS hv;have hS0:=hS.VX h0;refine kQ.mono (hcall f args J0 _ _ hrun _ w vs hS0 (aC.ground ha hv (λ_ _ h=>h))) ?_;rintro v w' ⟨F1,hst,hr⟩
 have hF:=(jK.start hS0 h0.own).step hl hst;obtain⟨F',h1,h2⟩:=hF.freeze (F:=F) hS hf hr;exact⟨F',r',rfl,h1,h2⟩
theorem dN.auC{f:FuncId}{g:Q3->Option AV}(h:∀args r,g args=some r->Fn P f args (· =r)):dN P f λargs J=>(g args).map (·,J):=by
 intro args J r J' hs F w vs hS hv;simp only[aZ,nR]at hs;obtain⟨r0,hg,rfl,rfl⟩:=hs;refine kQ.mono (h args r0 hg F J w vs hS hv) ?_;rintro v w' ⟨F',r,rfl,h1,h2⟩
 exact⟨F',h1,h2⟩
