/- Functions without a Go body: what the model does at them, for the evaluator. -/
import Derived.Test.YtmkkknckcnpljaaGreatDoorAbsG
import Derived.Laws.Externs
import Derived.Lib.LaidU8
import Derived.ChangeSame
set_option linter.all false
namespace Go.aO
noncomputable section
variable[aI]
variable{P:Program}{H:Env}{J J':aA}{w:World}
abbrev fC:=Q3->aA->Option (AV×aA)
abbrev W1:=List (FuncId×fC)
def eY(P:Program)(f:FuncId)(g:fC):Prop:=∀args J r J',g args J=some (r,J')->∀H w a,SR P H J w->aF H args a->
 lT P f ⟨a⟩ w λv c=>∃b,St P H J w b J' c/\VR b r v
def Qr:W1->Tr fC
 |[]=>.nil
 |(k,g)::l=>(Qr l).set k (some g)
def aa0(l:W1):xJ:=(Qr l).get
def ajQ:∀{l:W1}{f:FuncId}{g:fC},(Qr l).get f=some g->(f,g)∈l
 |[],f,g,h=>by simp[Qr]at h
 |(k,u)::l,f,g,h=>by
  rw[Qr,Tr.wP]at h;split at h
  ·next e=>cases h;subst e;simp
  ·exact zk _ (ajQ h)
def ah1{l:W1}(h:∀p∈l,eY P p.1 p.2):QV P (aa0 l):=λf g a=>h (f,g) (ajQ a)
structure Ext(P:Program)(f:FuncId)(e:QQ->Sem Value):Prop where
 call:∀args w,(callFunc f args).run P w=((e args).run P w).andThen λv w'=>.ok (.value v) w'
def Ext.mk'{f:FuncId}{fn:Func}{e:QQ->Sem Value}(b:P.funcs[f]? =some fn)(a:(fn.name == "runtime.NumGoroutine")=false)
 (c:fn.body.isNone=true) (d:Extern.findNext fn=none) (g:Extern.find fn=some e):Ext P f e:=⟨λargs w=>run_callFunc_extern b a c d g args w⟩
def Ext.Dh{f:FuncId}{e:QQ->Sem Value}(h:Ext P f e){args:QQ}{R:Value->World->Prop}(a:∃v w',(e args).run P w=.ok v w'/\R v w'):lT P f args w R:=by obtain⟨v,w',b,c⟩:=a;exact .inl ⟨v,w',by rw[h.call,b];rfl,c⟩
def P6:fC:=λl J=>match l with|[x]=>some (x,J)|_=>none
def ahr{f:FuncId}(h:Ext P f Extern.AbiNoEscape.same):eY P f P6:=by
 intro args J r J' a H w e c b;unfold P6 at a;split at a
 ·cases a;simp only[aF]at b;obtain⟨x,_,rfl,d,rfl⟩:=b;exact h.Dh ⟨x,w,rfl,H,St.refl c,d⟩
 ·cases a
def X8(a b:Q0):Int:=Extern.BytealgCompare.cmp ⟨⟨a⟩⟩ ⟨⟨b⟩⟩
def aap:fC:=λl J=>match l with|[.s a,.s b]=>some (.i .i64 (X8 a b),J)|_=>none
def awv{f:FuncId}(h:Ext P f Extern.BytealgCompare.compare):eY P f aap:=by
 intro args J r J' a H w d c b;unfold aap at a;split at a
 ·cases a;simp only[aF,VR]at b;obtain⟨x,_,rfl,rfl,y,_,rfl,rfl,rfl⟩:=b;refine h.Dh ⟨_,w,rfl,H,St.refl c,by simp only[VR];rfl⟩
 ·cases a
def aan:fC:=λl J=>match l with
 |[.i .u64 x,.i .u64 y,.i .u64 c]=>if 0<=x/\0<=y/\0<=c/\c<=1 then some (.eG [.i .u64 ((x+y+c)%18446744073709551616),.i .u64 ((x+y+c)/18446744073709551616)],J)else none
 |_=>none
def awr{f:FuncId}(h:Ext P f add64Entry):eY P f aan:=by
 intro args J r J' a H w m e d;unfold aan at a;split at a
 ·next x y c=>
  split at a
  ·next g=>
   cases a;obtain⟨i,j,k,l⟩:=g;simp only[aF,VR]at d;obtain⟨_,_,rfl,rfl,_,_,rfl,rfl,_,_,rfl,rfl,rfl⟩:=d;have b:=run_add64 (P:=P) x y c i j k l w;refine h.Dh ⟨_,w,b,H,St.refl e,?_⟩;simp only[VR];refine⟨_,rfl,aF.cons ?_ (aF.cons ?_ (by simp[aF]))⟩<;>simp only[VR]<;>congr 1
  ·cases a
 ·cases a
def aat(P:Program):fC:=λl J=>match l with
 |[.jc t a]=>match qg P (Extern.Rtype.kind t)with
  |some k=>some (.agg [.p P.globals.size t,.p J.next 0,.i .u64 ((k+128:Nat):Int)],J.new (.cells a.cells t true false))
  |none=>none
 |_=>none
def afp(h:SR P H J w)(t:TypeId):VR H (.p P.globals.size t) (typeHandle P t):=by obtain⟨b,es,a⟩:=h.nH P.globals.size (dY _);simp only[VR];exact⟨_,a,by simp[typeHandle]⟩
def awz{f:FuncId}(h:Ext P f (λargs=>Extern.ReflectliteValue.unpack (args.getD 0 (.tuple #[])))):eY P f (aat P):=by
 intro args J r J' b H w z n i;unfold aat at b;split at b
 ·next t a=>
  split at b
  ·next k o=>
   cases b;simp only[aF,VR]at i;obtain⟨_,_,rfl,⟨x,rfl,p⟩,rfl⟩:=i;obtain⟨y,d,s,c,j,l⟩:=adB (t:=t) n p;simp only[VR]at l;obtain⟨q,u,rfl⟩:=l;have g:(newVar t x).run P w=.ok ⟨q.bl,q.ba+0,none⟩ d:=by
    simp only[Instr.box,aT]at c;cases m:(newVar t x).run P w with
    |ok A v=>rw[m]at c;simp only[aQ,bF,Result.ok.injEq,Value.pointer.injEq,aZ]at c;obtain⟨rfl,rfl⟩:=c;rfl
    |halt e v=>rw[m]at c;simp at c
   refine h.Dh ⟨.agg #[typeHandle P t,.pointer (some ⟨q.bl,q.ba+0,none⟩),.int .u64 ((k+128:Nat):Int)],d,?_,s,j,?_⟩
   ·show(Extern.ReflectliteValue.unpack (.iface t x)).run P w=_
    simp only[Extern.ReflectliteValue.unpack,Extern.ReflectliteValue.mk,aT,g,aQ,Extern.Rtype.handle,program,Sem.run,bF,BQ o d];rfl
   ·simp only[VR];exact⟨_,rfl,aF.cons (by simpa only[VR]using afp j.rel t) (aF.cons (by simp only[VR];exact⟨q,u,rfl⟩) (aF.cons (by simp only[VR]) (by simp[aF])))⟩
  ·cases b
 ·cases b
def aaq(P:Program):fC:=λl J=>match l with
 |[.agg [.p g t,.p id a,.i .u64 f]]=>
  if g=P.globals.size/\0<f/\f.toNat%32=23 then
   match qg P (Extern.Rtype.noPack "a Value asked or handed on" t),qg P (Extern.Rtype.under t),vY P t J (.p id a)with
   |some _,some (_,i),some v=>match i.desc with
    |.slice _=>(Rf P J t v).map λn=>(n,J)
    |_=>none
   |_,_,_=>none
  else none
 |_=>none
def afr(t:TypeId){id:Nat}{x:Value}(b:SR P H J w)(c:id=P.globals.size)(h:VR H (.p id t) x):x=typeHandle P t:=by subst c;obtain⟨e,es,d⟩:=b.nH P.globals.size (dY _);simp only[VR]at h;obtain⟨q,a,rfl⟩:=h;rw[d]at a;cases a;simp[typeHandle]
def aaf(t:TypeId):(Extern.Rtype.ofHandle (typeHandle P t)).run P w=.ok t w:=by simp[Extern.Rtype.ofHandle,handleType,typeHandle,program,Sem.run]
def aww{f:FuncId}(h:Ext P f (Extern.ReflectliteValue.method (Extern.ReflectliteValue.valueError "reflectlite.Value.Len" 0) Extern.ReflectliteValue.len)):eY P f (aaq P):=by
 intro args J r J' d H w vs A F;unfold aaq at d;split at d
 ·next g t id b c=>
  split at d
  ·next I=>
   obtain⟨L,G,M⟩:=I;split at d
   ·next u u2 i v N O Q=>
    split at d
    ·next e B=>
     simp only[bg,og]at d;obtain⟨n,S,rfl,rfl⟩:=d;simp only[aF]at F;obtain⟨_,_,rfl,o,rfl⟩:=F;rw[VR]at o;obtain⟨ws,rfl,o⟩:=o;simp only[aF]at o;obtain⟨a1,_,rfl,D,a2,_,rfl,k,a3,_,rfl,p,rfl⟩:=o;have T:=afr t A L D;subst T;obtain⟨y,U,V⟩:=FM A Q k;simp only[VR]at k p;obtain⟨q,hq,rfl⟩:=k;subst p;obtain⟨z,W,X⟩:=af9 (ts:=#[t]) (ty:=0) A rfl S V;refine h.Dh ⟨z,w,?_,H,St.refl A,X⟩;have Y:c≠0:=by omega
     have j:(Extern.ReflectliteValue.parts (.agg #[typeHandle P t,.pointer (some ⟨q.bl,q.ba+b,none⟩),.int .u64 c])).run P w=.ok (some (t,⟨q.bl,q.ba+b,none⟩,c.toNat)) w:=by
      have s:(Extern.ReflectliteValue.partsAny (.agg #[typeHandle P t,.pointer (some ⟨q.bl,q.ba+b,none⟩),.int .u64 c])).run P w=.ok (some (t,⟨q.bl,q.ba+b,none⟩,c.toNat)) w:=by
       have B:Extern.ReflectliteValue.partsAny (.agg #[typeHandle P t,.pointer (some ⟨q.bl,q.ba+b,none⟩),.int .u64 c])=(do pure (some (<-Extern.Rtype.ofHandle (typeHandle P t),⟨q.bl,q.ba+b,none⟩,c.toNat))):=by
        obtain⟨m,rfl⟩:∃m:Nat,c=((m+1:Nat):Int):=⟨c.toNat-1,by omega⟩
        rfl
       rw[B];simp only[aT,aaf,aQ,bF]
      unfold Extern.ReflectliteValue.parts;simp only[aT,s,aQ,BQ N w,bF]
     have x:(Extern.ReflectliteValue.len t ⟨q.bl,q.ba+b,none⟩ c.toNat (c.toNat%32)).run P w=.ok z w:=by
      unfold Extern.ReflectliteValue.len;have E:(loadVar t ⟨q.bl,q.ba+b,none⟩).run P w=.ok y w:=by simpa[Instr.loadAt,Instr.sureAddr]using U
      rw[M];have l:(!([17,18,21,23,24]:Q2).contains 23)=false:=rfl;simp only[l,gy,if_false,aT,BQ O w,aQ,B,E,W]
     show(Extern.ReflectliteValue.method _ _ #[_]).run P w=_
     have Z:Extern.ReflectliteValue.method (Extern.ReflectliteValue.valueError "reflectlite.Value.Len" 0) Extern.ReflectliteValue.len #[.agg #[typeHandle P t,.pointer (some ⟨q.bl,q.ba+b,none⟩),.int .u64 c]]=(do
      match <-Extern.ReflectliteValue.parts (.agg #[typeHandle P t,.pointer (some ⟨q.bl,q.ba+b,none⟩),.int .u64 c])with
      |none=>Extern.ReflectliteValue.valueError "reflectlite.Value.Len" 0
      |some (t,a,c)=>Extern.ReflectliteValue.len t a c (c%32)):=rfl
     rw[Z];simp only[aT,j,aQ];exact x
    ·cases d
   ·cases d
  ·cases d
 ·cases d
def af8:AV->Option Nat
 |.gu=>some 0
 |.sl _ _ n _=>some n
 |_=>none
def Qn:X1->Nat->Option FuncId
 |[],_=>none
 |(j,f)::l,k=>bif Nat.beq k j then some f else Qn l k
def ajz:∀{a:X1}{k:Nat}{f:FuncId},Qn a k=some f->(k,f)∈a
 |[],k,f,h=>by simp[Qn]at h
 |(j,g)::l,k,f,h=>by
  unfold Qn at h;cases b:Nat.beq k j with
  |true=>rw[b]at h;cases h;rw[bH b];exact acJ
  |false=>rw[b]at h;exact zk _ (ajz h)
def acY(P:Program)(a:X1):Prop:=∀p∈a,P.funcs.findIdx? (·.name == "internal/reflectlite" ++ ".Swapper$" ++toString p.1)=some p.2
def aas(P:Program)(a:X1):fC:=λl J=>match l with
 |[.jc t s]=>
  match qg P (Extern.Rtype.elem? t)with
  |some (some e)=>
   match af8 s,P.info? e,qg P (Extern.Rtype.kind e)with
   |some n,some i,some b=>
    let k:Nat:=
     if n==0 then 1 else if n==1 then 2
     else if i.hasPointers&&i.bytes==8 then 3
     else if i.hasPointers&&(b==24)then 4
     else if i.hasPointers then 9
     else match i.bytes with|8=>5|4=>6|2=>7|1=>8|_=>9
    match Qn a k with
    |some f=>some (.fn f [] (if k<=2 then[]else[s,.p P.globals.size e]),J)
    |none=>none
   |_,_,_=>none
  |_=>none
 |_=>none
def aBM(c:String)(a:Nat->Sem Value)(t:TypeId)(s:Value):Extern.ReflectliteSwapper.swapper c a #[.iface t s]=(do
 let(.slice _ n _,some e):=(s,<-Extern.Rtype.elem? t)|a (<-Extern.Rtype.kind t)
 let i <-typeInfo e
 let b:=(<-Extern.Rtype.kind e)==24
 let k:Nat:=
  if n==0 then 1 else if n==1 then 2
  else if i.hasPointers&&i.bytes==8 then 3
  else if i.hasPointers&&b then 4
  else if i.hasPointers then 9
  else match i.bytes with|8=>5|4=>6|2=>7|1=>8|_=>9
 let h <-Extern.Rtype.handle e
 Extern.ReflectliteSwapper.literal c k (if k<=2 then #[]else #[s,h])):=rfl
def awy{f:FuncId}(h:Ext P f (Extern.ReflectliteSwapper.swapper "internal/reflectlite" (Extern.ReflectliteValue.valueError "Swapper"))){g:X1}(j:acY P g):eY P f (aas P g):=by
 intro args J r J' b H w F u v;unfold aas at b;split at b
 ·next t s=>
  split at b
  ·next e z=>
   split at b
   ·next n i A m hi B=>
    simp only at b;split at b
    ·next D d=>
     cases b;simp only[aF,VR]at v;obtain⟨_,_,rfl,⟨x,rfl,l⟩,rfl⟩:=v;have o:∃a c,x=.slice a n c:=by
      cases s<;>simp[af8]at m
      ·subst m;simp only[VR]at l;exact⟨_,_,l⟩
      ·subst m;simp only[VR]at l;obtain⟨q,_,_,rfl⟩:=l;exact⟨_,_,rfl⟩
     obtain⟨a,c,rfl⟩:=o;generalize p:(if(n==0)=true then 1 else if(n==1)=true then 2 else if(i.hasPointers&&i.bytes==8)=true then 3 else if(i.hasPointers&&(A==24))=true then 4 else if i.hasPointers=true then 9 else match i.bytes with|8=>5|4=>6|2=>7|1=>8|_=>9:Nat)=k at *;have d:=j _ (ajz d);refine h.Dh ⟨.func (.func D) #[] (if k<=2 then #[]else #[.slice a n c,typeHandle P e]),w,?_,H,St.refl u,?_⟩
     ·show(Extern.ReflectliteSwapper.swapper "internal/reflectlite" _ #[.iface t (.slice a n c)]).run P w=_
      have E:=aBM "internal/reflectlite" (Extern.ReflectliteValue.valueError "Swapper") t (.slice a n c);rw[E];simp only[aT,BQ z w,aQ,Gv hi,BQ B w,Extern.Rtype.handle,program,Sem.run,bF,p,Extern.ReflectliteSwapper.literal,d]
     ·simp only[VR];by_cases y:k<=2
      ·simp only[y,if_true];exact⟨[],[],rfl,by simp[aF],by simp[aF]⟩
      ·simp only[y,if_false];exact⟨[],[_,_],rfl,by simp[aF],aF.cons l (aF.cons (afp u e) (by simp[aF]))⟩
    ·cases b
   ·cases b
  ·cases b
 ·cases b
def D5(P:Program):fC:=λl J=>match l with
 |[.i .i64 i,.i .i64 j,.sl id b n c,.p g e]=>
  if g=P.globals.size/\0<=i/\i<n/\0<=j/\j<n then
   match sizeT P e with
   |some a=>
    match vY P e J (.p id (b+i.toNat*a)),vY P e J (.p id (b+j.toNat*a))with
    |some x,some y=>match EK P e J (.p id (b+i.toNat*a)) y with
     |some d=>match EK P e d (.p id (b+j.toNat*a)) x with
      |some f=>some (.eG [],f)
      |none=>none
     |none=>none
    |_,_=>none
   |none=>none
  else none
 |_=>none
def agc{t:TypeId}{b:Bool}{a:Addr}{y:Value}(h:(Instr.loadAt t (.pointer (some a))).run P w=.ok y w):(loadVar t a).run P w=.ok y w:=by simpa[Instr.loadAt,Instr.sureAddr]using h
def ajv{t:TypeId}{a:Addr}{y:Value}{w':World}(h:(Instr.storeAt t (.pointer (some a)) y).run P w=.ok () w'):(storeVar t a y).run P w=.ok () w':=by simpa[Instr.storeAt,Instr.sureAddr]using h
def Jo{f:FuncId}{b:Bool}(h:Ext P f (Extern.ReflectliteSwapper.swap b)):eY P f (D5 P):=by
 intro args J r J' k H w vs s L;unfold D5 at k;split at k
 ·next i j id a n V g e=>
  split at k
  ·next W=>
   obtain⟨X,Y,Z,aa,ab⟩:=W;split at k
   ·next d t=>
    split at k
    ·next x y hx hy=>
     split at k
     ·next J1 v=>
      split at k
      ·next J2 z=>
       cases k;simp only[aF]at L;obtain⟨v1,_,rfl,M,v2,_,rfl,N,v3,_,rfl,O,v4,_,rfl,h4,rfl⟩:=L;have e4:=afr e s X h4;subst e4;simp only[VR]at M N O;subst M;subst N;obtain⟨q,Q,ac,rfl⟩:=O;have S:VR H (.p id (a+i.toNat*d)) (.pointer (some ⟨q.bl,q.ba+(a+i.toNat*d),none⟩)):=by simp only[VR];exact⟨q,Q,rfl⟩
       have T:VR H (.p id (a+j.toNat*d)) (.pointer (some ⟨q.bl,q.ba+(a+j.toNat*d),none⟩)):=by simp only[VR];exact⟨q,Q,rfl⟩
       obtain⟨u,hu,A⟩:=FM s hx S;obtain⟨u',B,D⟩:=FM s hy T;obtain⟨w1,l,m⟩:=VN s v S D;have E:VR H (.p id (a+j.toNat*d)) (.pointer (some ⟨q.bl,q.ba+(a+j.toNat*d),none⟩)):=T;obtain⟨U,o,F⟩:=VN m.rel z E A;refine h.Dh ⟨.tuple #[],U,?_,H,m.trans F,by simp only[VR];exact⟨[],rfl,by simp[aF]⟩⟩;have p:(Extern.ReflectliteSwapper.exchange e ⟨q.bl,q.ba+a,none⟩ i.toNat j.toNat).run P w=.ok (.tuple #[]) U:=by unfold Extern.ReflectliteSwapper.exchange;have a1:=agc (b:=true) hu;have a2:=agc (b:=true) B;have a3:=ajv l;have a4:=ajv o;simp only[aT,jd t,aQ,qy,jH,a1,a2,a3,a4,bF]
       have t1:¬(i<0\/i>=n):=by omega
       have t2:¬(j<0\/j>=n):=by omega
       show(Extern.ReflectliteSwapper.swap b #[.int .i64 i,.int .i64 j,.slice (some ⟨q.bl,q.ba+a,none⟩) n _,typeHandle P e]).run P w=_
       cases b
       ·have G:∀c,Extern.ReflectliteSwapper.swap false #[.int .i64 i,.int .i64 j,.slice (some ⟨q.bl,q.ba+a,none⟩) n c,typeHandle P e]=(do
         if i<0 ||i>=n ||j<0 ||j>=n then Extern.ReflectliteSwapper.outOfRange
         Extern.ReflectliteSwapper.exchange (<-Extern.Rtype.ofHandle (typeHandle P e)) ⟨q.bl,q.ba+a,none⟩ i.toNat j.toNat):=λ_=>rfl
        rw[G];have I:(decide (i<0) ||decide (i>=n) ||decide (j<0) ||decide (j>=n))=false:=by simp;omega
        simp only[I,gy,if_false,aT,aaf,aQ,p]
       ·have G:∀c,Extern.ReflectliteSwapper.swap true #[.int .i64 i,.int .i64 j,.slice (some ⟨q.bl,q.ba+a,none⟩) n c,typeHandle P e]=(do
         if i<0 ||i>=n then boundsPanic .i64 i n .index
         if j<0 ||j>=n then boundsPanic .i64 j n .index
         Extern.ReflectliteSwapper.exchange (<-Extern.Rtype.ofHandle (typeHandle P e)) ⟨q.bl,q.ba+a,none⟩ i.toNat j.toNat):=λ_=>rfl
        rw[G];have I:(decide (i<0) ||decide (i>=n))=false:=by simp;omega
        have t4:(decide (j<0) ||decide (j>=n))=false:=by simp;omega
        simp only[I,t4,gy,if_false,aT,aaf,aQ,p]
      ·cases k
     ·cases k
    ·cases k
   ·cases k
  ·cases k
 ·cases k
end
noncomputable section
variable[aI]
variable{P:Program}
open Go.Extern.BytealgMakeNoZero
end
noncomputable section
variable[aI]
open Go.ChangeShapes Go.WideShapes
variable{P:Program}
def adf{a b:Bool}(c:a=true)(d:b=true):(a&&b)=true:=by rw[c,d];rfl
structure Kept(W W':World):Prop where
 os:W'.os=W.os
 tape:W'.tape=W.tape
 output:W'.output=W.output
 size:W.heap.size<=W'.heap.size
 keep:∀bl,bl<W.heap.size->W'.heap[bl]? =W.heap[bl]?
def Kept.but{W a:World}(h:Kept W a)(m:MemPlace->Prop):W.keptBut a m:=by
 refine⟨h.os,h.output,λi hi=>?_⟩;rw[h.keep i hi];cases b:W.heap[i]? with
 |none=>trivial
 |some o=>cases o<;>first|exact⟨rfl,rfl,rfl,λ_ _=>rfl⟩|exact .inr ⟨rfl,rfl⟩|rfl
def Kept.frozen{W b:World}(h:Kept W b)(a:Addr)(c:a.block<W.heap.size):b.frozen? a=W.frozen? a:=by unfold World.frozen?;rw[h.keep _ c]
def St.kept{H H':Env}{J J':aA}{w w':World}(h:St P H J w H' J' w')(a:∀id o,J.get id=some o->o.own=false):Kept w w':=
 ⟨h.os,h.tape,h.output,h.size,λc d=>h.keep c d λid o q e b _ _=>by rw[a id o e]at b;cases b⟩
def lT.calls{f:FuncId}{fn:Func}{c:Code}{args:QQ}{w:World}{R:Value->World->Prop}(g:vO P)(b:P.funcs[f]? =some fn)(d:fn.body=some c)
 (h:lT P f args w R):Calls P f args w λe w'=>∃v,e=.returned v/\R v w':=by
 rcases h with⟨v,w',h,_⟩|⟨_,h⟩
 ·have a:=g f fn c b d;simp only[callFunc,aT,program,Sem.run,aQ,b]at h;simp only[a,gy,if_false,d,J8,bF]at h;cases h
 ·exact h
def Calls.mono'{f:FuncId}{args:QQ}{w:World}{R a:Ending->World->Prop}(h:Calls P f args w R)(b:∀e w',R e w'->a e w'):Calls P f args w a:=by intro c;obtain⟨e,w',d,g,i⟩:=h c;exact⟨e,w',d,b e w' g,i⟩
def aut{f:FuncId}{fn:Func}{c:Code}{args:Q3}{vs:Q6}{w:World}{H:Env}{J J':aA}{r:AV}{call:Caller}(a:rD P call)(h:vO P)(i:P.funcs[f]? =some fn)(j:fn.body=some c)
 (b:call f args J=some (r,J')) (k:SR P H J w) (l:aF H args vs) (d:∀id o,J.get id=some o->o.own=false):
 Calls P f ⟨vs⟩ w λe w'=>∃v,e=.returned v/\(∃H',VR H' r v)/\Kept w w':=
 Calls.mono' (lT.calls h i j (a f args J r J' b H w vs k l)) λ_ _ ⟨v,m,H',g,n⟩=>⟨v,m,⟨H',n⟩,g.kept d⟩
def xW(n:Nat)(J:aA)(ro:Nat->Option Obj:=λ_=>none):Env:=⟨λid=>if id<=n then some ⟨id,0,(match J.get id with|some (.cells c _ _ _)=>c.length|_=>0),0⟩else none,ro,λ_=>false⟩
structure TabAt(w:World)(g:Nat)(c:Q3):Prop where
 at':∃cs elem fr,w.heap[g]? =some (.cells cs elem fr)/\c.length<=cs.size/\Xk c cs
def NS{J:aA}{w:World}(G:P.globals.size<J.next)(f:∀id o,J.get id=some o->id<=P.globals.size/\∃c,o=.cells c 0 false false/\TabAt w id c){ro:Qf}(i:∀b o,ro b=some o->w.heap[b]? =some o)(d:∀p∈aI.tabs,EH (xW P.globals.size J ro) p.1 p.2):SR P (xW P.globals.size J ro) J w:=by
 refine⟨λg j=>?_,λid q l=>?_,λid o s=>?_,λ_ j=>(by cases j),λid o t I q L m n M u=>?_,i,λid o q m n _=>?_,d⟩;rotate_right
 ·obtain⟨_,c,rfl,_⟩:=f id o m;cases n
 ·exact⟨_,_,by simp only[xW];rw[aj j]⟩
 ·simp only[xW]at l;split at l
  ·omega
  ·cases l
 ·obtain⟨r,c,rfl,⟨v,e,y,z,A,B⟩⟩:=f id o s;refine .inl ⟨⟨id,0,c.length,0⟩,?_,v,e,y,z,?_⟩
  ·simp only[xW];rw[aj r,s]
  ·refine⟨by simpa using A,dY _,λ_=>rfl,λk a D=>?_,(λh=>by cases h),λh=>absurd rfl h,(λh=>by cases h)⟩;obtain⟨x,E,F⟩:=B.1 k a D;exact⟨x,by simpa using E,F.vr⟩
 ·obtain⟨_,c,rfl,_⟩:=f id o m;cases n
def aB2{w:World}{b:String}{k:IntKind}{d:List Int}{g:Nat}(h:Lib.TabIs P w b k d)(j:P.globalNamed b=some g)(c:d.isEmpty=false:=by rfl):TabAt w g (d.map λz=>.i k z):=by
 unfold Lib.TabIs World.var? at h;rw[j]at h;simp only[vU]at h;split at h
 ·next m e n l=>
  cases h;refine⟨_,_,_,l,by simp,λi a f=>?_,λ_=>by simp,λh=>by simp at h;rw[h]at c;cases c⟩;simp only[iw,bg]at f;obtain⟨z,c,rfl⟩:=f;exact⟨.int k z,by simp[c],.inl rfl⟩
 ·cases h
def aau(k:IntKind)(n:Nat)(f:Nat->Int):DataW Unit:=.agg ((List.range n).map λi=>.agg ([f (2*i),f (2*i+1)].map λz=>.lit (.int k z)))
def aB3{w:World}{c:String}{k:IntKind}{n:Nat}{f:Nat->Int}{g:Nat}{t e:TypeId}{fs:Array Field}(h:Lib.VarReads P w c (aau k n f))(N:P.globalNamed c=some g)
 (B:(P.globals[g]?).map (·.type)=some t) (O:P.underlying t=some (.array n e)) (U:P.underlying e=some (.struct fs))
 (V:∀(m:Nat)(z:Field),fs[m]? =some z->P.underlying z.type=some (.int k)/\z.offset=m/\P.cellsOf z.type=1) (D:fs.size=2)
 (r:P.cellsOf e=2) (E:P.cellsOf t=2*n) (Z:n≠0:=by decide):TabAt w g ((List.range (2*n)).map λj=>.i k (f j)):=by
 obtain⟨g',t',Q,i,p,F,G,b,s⟩:=h;obtain rfl:=CU (N.symm.trans F);obtain rfl:=CU (B.symm.trans G);have l:Q.toList.length=2*n:=by
  cases i with
  |zero=>simp[DataW.trod]at s
  |succ i=>
   simp only[DataW.trod,O]at s;split at s
   ·next W=>rw[<-E];exact W
   ·cases s
 have o:∀j,j<2*n->Q[j]? =some (.int k (f j)):=by
  intro j hj;obtain⟨I,d,q,u,v⟩:=Lib.array_elem O s (j/2) (by omega);simp only[iw,acF (show j/2<n by omega),gB,aZ]at u;subst u;rw[r]at v;have x:=Lib.ints_of_struct U V (by rw[r,D]) v;have L:=tX (·[0]?) x;have M:=tX (·[1]?) x;simp[rF]at L M;by_cases A:j%2=0
  ·have:j/2*2=j:=by omega
   rw[this]at L;rw[L];congr 3;omega
  ·have:j/2*2+1=j:=by omega
   rw[this]at M;rw[M];congr 3;omega
 unfold World.var? at b;rw[N]at b;simp only[vU]at b;split at b
 ·next X S fr Y=>
  cases b;refine⟨_,_,_,Y,by simp at l⊢;omega,λj a T=>?_,λ_=>by simp at l⊢;omega,λh=>by simp at h;omega⟩;simp only[iw,bg]at T;obtain⟨m,A,rfl⟩:=T;have y:j<2*n:=by have:=(fB.1 A).1;simpa using this
  rw[acF y]at A;cases A;exact⟨_,o j y,.inl rfl⟩
 ·cases b
def axg{q:Type}{enc:TypeId×Value->q}{f:Func}{s:ChangeSpec}{apart l c again:Bool}{W o:World}{args:QQ}{v:Value}{u gs:List (DataW q)}{a pa pv:List MemPlace}
 (y:DataW.Whole enc P f.params.toList s.vars apart W args.toList u gs a)
 (i:∀(b:Nat)(m:Nat->Bool)(D:Bool),DataW.TrodAll enc P o b m D f.resultTypes.toList (v.resultList f.resultTypes.size) (s.fn q (u++gs)).results [])
 (d:∀m:Nat->Bool,(∀p∈a,m p.block=true)->DataW.TrodAll enc P o 0 m true f.params.toList args.toList (s.fn q (u++gs)).args pa)
 (e:∀m:Nat->Bool,(∀p∈a,m p.block=true)->DataW.TrodVars enc P o m s.vars (s.fn q (u++gs)).vars pv)
 (h:a=pa++pv) (B:Kept W o)
 (z:∀(j:Nat)(t:TypeId)(r:Value),f.resultTypes[j]? =some t->(v.resultList f.resultTypes.size)[j]? =some r->Value.okWide P o .any 0 t r):
 s.post enc P f apart l c again W args v o:=by
 have k:∀p∈a,(λb=>decide (b<W.heap.size)) p.block=true:=λp g=>by simpa using y.lt p g
 have A:=λp g=>y.lt p g;refine⟨u,gs,a,[],pa,pv,y,i _ _ _,d _ k,e _ k,World.keptBut_mono (λp g=>⟨g,?_⟩) (B.but (·∈a)),λ_=>?_⟩
 ·rw[h,iW]at g;exact Or.inr g
 ·obtain⟨_,_,_,_,_,E,F⟩:=y;refine⟨z,_,_,([]++pa)++pv,⟨[]++pa,pv,trodAll_append (d _ (λ_ _=>rfl)) (i _ _ _),e _ (λ_ _=>rfl),rfl,?_,?_⟩,?_⟩
  ·intro b n g;have x:MemPlace.cell b n∈a:=by rw[h];simpa using g
   have G:=A _ x;rw[B.frozen ⟨b,n,none⟩ G];exact E b n x
  ·intro I;have:=F I;rw[h]at this;simpa using this
  ·intro p g _;rw[h];simpa using g
end
noncomputable section
variable[aI]
variable{P:Program}
def lT.mono{f:FuncId}{args:QQ}{w:World}{R c:Value->World->Prop}(h:lT P f args w R)(d:∀v w',R v w'->c v w'):lT P f args w c:=by
 rcases h with⟨v,w',a,b⟩|⟨a,b⟩
 ·exact .inl ⟨v,w',a,d v w' b⟩
 ·refine .inr ⟨a,Calls.mono' b ?_⟩;rintro e w' ⟨v,g,i⟩
  exact⟨v,g,d v w' i⟩
def St.ahj{H:Env}{J:aA}{w w':World}(h:SR P H J w)(a:Kept w w'):St P H J w H J w':=by refine⟨Env.le.refl _,⟨h.nH,h.dom,λid o d=>?_,h.jT,h.sep,λb o c=>(a.keep b (wM (h.ji b o c))).trans (h.ji b o c),h.lS,h.tabs⟩,a.size,λe c _=>a.keep e c,λid o q f g i j=>.inr ⟨id,o,q,f,g,i,j,rfl⟩,a.os,a.tape,a.output,rfl,dY _,λ_ h=>.inl h,λ_ h=>.inl h⟩;exact(h.live id o d).heap λq _ k=>a.keep _ k.lt
def EH.at{H:Env}{J:aA}{w:World}(h:SR P H J w){g:Nat}{c:Q3}(b:EH H g c):TabAt w g c:=by obtain⟨d,a,e,f,i,j⟩:=b;exact⟨d,a,e,h.ji _ _ f,i,j⟩
def AP(J0:aA)(n:Nat):Prop:=n<J0.next/\∀id o,J0.get id=some o->∃c,o=.cells c 0 false false/\(id,c)∈aI.tabs/\id<=n
def SR.V5{H:Env}{J J0:aA}{w:World}(h:SR P H J w)(h0:AP J0 P.globals.size):SR P (xW P.globals.size J0 H.ro) J0 w:=
 NS h0.1 (λid o d=>by obtain⟨c,rfl,e,b⟩:=h0.2 id o d;exact⟨b,c,rfl,(h.tabs _ e).at h⟩) h.ji (λp f=>by obtain⟨g,a,i,j,k⟩:=h.tabs p f;exact⟨g,a,i,j,k⟩)
def AP.own{J0:aA}{n:Nat}(h:AP J0 n):∀id o,J0.get id=some o->o.own=false:=by intro id o a;obtain⟨c,rfl,_⟩:=h.2 id o a;rfl
def Jm:fC:=λargs J=>match args with
 |[]=>some (.b true,J)
 |_=>none
def awu{call:Caller}{f:FuncId}{J0 J':aA}(a:rD P call)(h0:AP J0 P.globals.size)(b:call f [] J0=some (.b true,J')):eY P f Jm:=by
 intro args J r i c H w j e g;unfold Jm at c;split at c
 ·cases c;simp only[aF]at g;subst g;refine lT.mono (a f [] J0 _ _ b _ w [] (e.V5 h0) rfl) ?_;rintro v k ⟨l,d,h⟩
  refine⟨H,St.ahj e (d.kept h0.own),?_⟩;simp only[VR]at h⊢;exact h
 ·cases c
def VR.ground{H H':Env}{a:AV}{v:Value}(d:a.under 0=true)(h:VR H a v)(c:∀b o,H.ro b=some o->H'.ro b=some o):VR H' a v:=
 VR.mono (H:=H.cut 0) ⟨λid q e=>by simp[Env.cut]at e,c,λid f=>by simp[Env.cut]at f⟩ a v (VR.cut a v d h)
def aF.ground{H H':Env}{l:Q3}{vs:Q6}(c:AV.oZ 0 l=true)(h:aF H l vs)(a:∀b o,H.ro b=some o->H'.ro b=some o):aF H' l vs:=
 aF.mono (H:=H.cut 0) ⟨λid q d=>by simp[Env.cut]at d,a,λid e=>by simp[Env.cut]at e⟩ l vs (aF.cut l vs c h)
def grp(agg:Bool)(size:Nat):Nat->List AV->List AV
 |0,_=>[]
 |n+1,cs=>(if agg then .agg (cs.take size)else cs.headD .jD)::grp agg size n (cs.drop size)
def IK(agg:Bool)(size:Nat):Nat->List Value->List Value
 |0,_=>[]
 |n+1,cs=>(if agg then .agg ⟨cs.take size⟩else cs.headD undef)::IK agg size n (cs.drop size)
def YN(agg:Bool)(size:Nat):∀(n:Nat)(l:Q3),(grp agg size n l).length=n
 |0,_=>rfl
 |n+1,l=>by simp[grp,YN agg size n]
def afn{H:Env}{agg:Bool}{size:Nat}(h1:agg=false->size=1):∀(n:Nat)(l:Q3)(xs:Q6),aF H l xs->l.length=n*size->l.all AV.nU=true->
 aF H (grp agg size n l) (IK agg size n xs)/\(∀x∈IK agg size n xs,x.cells.size=size)/\dS (IK agg size n xs)=xs
 |0,l,xs,c,g,_=>by
  have:xs=[]:=by apply jl;rw[<-c.length,g];exact Nat.zero_mul _
  subst this;simp[grp,IK,aF,dS]
 |n+1,l,xs,c,g,b=>by
  have e:=c.length;rw[rH,Hq]at g;have d:=afn h1 n (l.drop size) (xs.drop size) (c.drop size) (by simp;omega) (by rw[List.all_eq_true]at b⊢;exact λa h=>b a (J5 h))
  cases agg with
  |true=>
   simp only[grp,IK,if_true];refine⟨aF.cons (by simp only[VR];exact⟨_,rfl,c.take size⟩) d.1,?_,?_⟩
   ·intro x i;rcases bD.1 i with rfl|i
    ·have:=e;simp[Value.cells];try omega
    ·exact d.2.1 x i
   ·have:=d.2.2;simp only[dS,jF]at this⊢;rw[this];simp[Value.cells]
  |false=>
   have o:=h1 rfl;subst o;cases l with
   |nil=>simp at g
   |cons a l=>
    simp only[aF]at c;obtain⟨x,p,rfl,m,q⟩:=c;have h:=List.all_eq_true.1 b a (by simp);have j:=aaj m h;have f:x.cells =#[x]:=by cases x<;>simp[pX]at j<;>rfl
    simp only[grp,IK,gy,if_false,List.headD_cons];simp only[WM,bK]at d⊢;refine⟨aF.cons m d.1,?_,?_⟩
    ·intro y k;rcases bD.1 k with rfl|k
     ·rw[f];rfl
     ·exact d.2.1 y k
    ·have:=d.2.2;simp only[dS,jF]at this⊢;rw[this,f];rfl
def uT(P:Program)(J:aA):Nat->AV->Option AV
 |0,_=>none
 |n+1,a=>
  match a with
  |.sl id off len _=>
   if len=0 then some (.ro [])else
   match J.get id with
   |some (.cells c b true _)=>
    match sizeT P b,oO P b with
    |some size,some agg=>
     if(agg=true/\0<size)\/size=1 then
      match takeN c off (len*size)with
      |some cs=>match uq (uT P J n) cs with
       |some d=>if d.all AV.nU then some (.ro (grp agg size len d))else none
       |none=>none
      |none=>none
     else none
    |_,_=>none
   |_=>none
  |.gu=>some (.ro [])
  |.agg l=>(uq (uT P J n) l).map .agg
  |.eG l=>(uq (uT P J n) l).map .eG
  |.jc t x=>(uT P J n x).map (.jc t)
  |a=>if a.under 0 then some a else none
def awk{H H':Env}{f:AV->Option AV}(i:∀a r v,f a=some r->VR H a v->VR H' r v){l r:Q3}{vs:Q6}(h:uq f l=some r)(d:aF H l vs):aF H' r vs:=by
 obtain⟨j,m⟩:=L6 h;refine aF.of (by rw[<-j];exact d.length) λk a e=>?_;have b:k<l.length:=by have:=(fB.1 e).1;omega
 obtain⟨y,g,c⟩:=m k _ (bP b);rw[e]at g;cases g;obtain⟨x,n,o⟩:=d.at (bP b);exact⟨x,n,i _ _ _ c o⟩
def arV{H H':Env}{J:aA}{w:World}{N:Nat}(h:SR P H J w)(s:∀id o q,J.get id=some o->o.own=true->H id=some q->N<=q.bl)
 (I:∀b o,H.ro b=some o->H'.ro b=some o) (t:∀b o,N<=b->w.heap[b]? =some o->H'.ro b=some o):∀(n:Nat)(a r:AV)(v:Value),uT P J n a=some r->VR H a v->VR H' r v:=by
 intro n;induction n with
 |zero=>intro a r v d;simp[uT]at d
 |succ n U=>
  intro a r v d f;have j:∀(l r:Q3)(m:Q6),uq (uT P J n) l=some r->aF H l m->aF H' r m:=λl r m h1 h2=>awk U h1 h2;unfold uT at d;split at d
  ·next id L len ab=>
   simp only[VR]at f;obtain⟨q,V,M,rfl⟩:=f;split at d
   ·next W=>cases d;subst W;exact Qe
   ·next W=>
    split at d
    ·next c et ac X=>
     split at d
     ·next g O hs ha=>
      split at d
      ·next Q=>
       split at d
       ·next cs p=>
        split at d
        ·next ds u=>
         split at d
         ·next z=>
          cases d;obtain⟨q',A,ws,B,fr,hb,Y⟩:=h.obj _ _ X rfl;rw[V]at A;cases A;have i:=j _ _ _ u (Y.y7 p);have D:=(ru p).2.1;have E:=(L6 u).1;have F:O=false->g=1:=λe=>Q.elim (λh=>absurd (h.1.symm.trans e) (by simp)) (λh=>h);obtain⟨g1,g2,Z⟩:=afn F len ds _ i (by rw[<-E,D]) z;have aa:=Y.take p;have S:=i.length;simp only[VR];right;refine⟨q.bl,q.ba+L,_,_,g,by rw[YN],by rw[YN];exact M,g1,g2,λ_=>⟨ws,B,fr,t _ _ (s id _ q X rfl V) hb,?_,?_⟩⟩
          ·rw[Z];rw[<-S,<-E,D];have:0<len*g:=NI (by omega) (by omega);omega
          ·rw[Z];intro k x G;rw[mG]at G;split at G
           ·rw[rF,vJ]at G;exact G
           ·cases G
         ·cases d
        ·cases d
       ·cases d
      ·cases d
     ·cases d
    ·cases d
  ·cases d;simp only[VR]at f⊢;exact .inl ⟨trivial,_,f⟩
  ·simp only[bg]at d;obtain⟨l',T,rfl⟩:=d;simp only[VR]at f⊢;obtain⟨m,rfl,f⟩:=f;exact⟨m,rfl,j _ _ _ T f⟩
  ·simp only[bg]at d;obtain⟨l',T,rfl⟩:=d;simp only[VR]at f⊢;obtain⟨m,rfl,f⟩:=f;exact⟨m,rfl,j _ _ _ T f⟩
  ·simp only[bg]at d;obtain⟨x',hx,rfl⟩:=d;simp only[VR]at f⊢;obtain⟨y,rfl,f⟩:=f;exact⟨y,rfl,U _ _ _ hx f⟩
  ·split at d
   ·next hu=>cases d;exact VR.ground hu f I
   ·cases d
structure Base where
 w:World
 hole:Nat->Prop
 anch:Nat->Option Place
structure QJ(b:Base)(W':World):Prop where
 os:W'.os=b.w.os
 tape:W'.tape=b.w.tape
 output:W'.output=b.w.output
 size:b.w.heap.size<=W'.heap.size
 keep:∀bl,bl<b.w.heap.size->¬b.hole bl->W'.heap[bl]? =b.w.heap[bl]?
def Base.shut(w:World):Base:=⟨w,λ_=>False,λ_=>none⟩
structure jU(P:Program)(w0:Base)(dV:Qf)(H:Env)(J:aA)(w:World):Prop where
 rel:SR P H J w
 kept:QJ w0 w
 own:∀id o q,J.get id=some o->o.own=true->H id=some q->w0.w.heap.size<=q.bl\/w0.hole q.bl
 uz:∀b o,dV b=some o->H.ro b=some o
 qK:∀b,H.ro b≠none->dV b≠none\/w0.w.heap.size<=b\/w0.hole b
 qQ:∀i q,w0.anch i=some q->H i=some q/\P.globals.size<i/\i<=P.globals.size+gY.ka
def Kept.refl(w:World):Kept w w:=⟨rfl,rfl,rfl,dY _,λ_ _=>rfl⟩
def jU.start{H:Env}{J:aA}{w:World}(h:SR P H J w)(a:∀id o,J.get id=some o->o.own=false):jU P (.shut w) H.ro H J w:=
 ⟨h,⟨rfl,rfl,rfl,dY _,λ_ _ _=>rfl⟩,λid o q c b=>(by rw[a id o c]at b;cases b),λ_ _ h=>h,λ_ h=>.inl h,λ_ _ h=>by cases h⟩
def QJ.shut{w w':World}(h:QJ (.shut w) w'):Kept w w':=⟨h.os,h.tape,h.output,h.size,λa b=>h.keep a b (λe=>e)⟩
def jU.awq{w:World}{d:Qf}{H:Env}{J:aA}{w':World}(h:jU P (.shut w) d H J w'):∀id o q,J.get id=some o->o.own=true->H id=some q->w.heap.size<=q.bl:=by
 intro id o q a b c;rcases h.own id o q a b c with h1|h1
 ·exact h1
 ·cases h1
def jU.aiP{w:World}{a:Qf}{H:Env}{J:aA}{w':World}(h:jU P (.shut w) a H J w'):∀b,H.ro b≠none->a b≠none\/w.heap.size<=b:=by
 intro b c;rcases h.qK b c with h1|h1|h1
 ·exact .inl h1
 ·exact .inr h1
 ·cases h1
def jU.step{w0:Base}{l:Qf}{H H':Env}{J J':aA}{w w':World}(h:jU P w0 l H J w)(p:J.lock=0)(k:St P H J w H' J' w'):jU P w0 l H' J' w':=by
 refine⟨k.rel,⟨k.os.trans h.kept.os,k.tape.trans h.kept.tape,k.output.trans h.kept.output,jP h.kept.size k.size,λm c n=>?_⟩,λid o q h1 r s=>?_,λb o c=>k.ext.ro b o (h.uz b o c),λb c=>?_,λi q hi=>⟨k.ext.pl _ _ (h.qQ i q hi).1,(h.qQ i q hi).2⟩⟩
 ·rw[k.keep m (xG c h.kept.size) (λid o q f t _ u=>by
   rcases h.own id o q f t u with h1|h1
   ·omega
   ·intro e;rw[e]at h1;exact n h1)]
  exact h.kept.keep m c n
 ·rcases k.own id o q h1 r (by rw[p];exact vT _) s with v|⟨g,o0,j,a,b,_,d,e⟩
  ·exact .inl (jP h.kept.size v)
  ·rw[<-e];exact h.own g o0 j a b d
 ·rcases k.qK b c with h1|h1|⟨g,o0,j,f,x,z,d1,y⟩
  ·exact h.qK b h1
  ·exact .inr (.inl (jP h.kept.size h1))
  ·right;rw[<-y];exact h.own g o0 j f x d1
def Fn(P:Program)(f:FuncId)(args:Q3)(R:AV->Prop):Prop:=∀H J w a,SR P H J w->aF H args a->lT P f ⟨a⟩ w λv c=>∃b r,R r/\St P H J w b J c/\VR b r v
def jU.freeze{H H1:Env}{J s:aA}{w w1:World}(d:SR P H J w)(h:jU P (.shut w) H.ro H1 s w1){n:Nat}{r i:AV}{v:Value}(z:uT P s n r=some i)(A:VR H1 r v):
 ∃H',St P H J w H' J w1/\VR H' i v:=by
 let e:Nat->Option Obj:=λb=>if b<w.heap.size then H.ro b else w1.heap[b]?
 have j:∀b o,H.ro b=some o->b<w.heap.size:=λb o a=>wM (d.ji b o a);have f:(H:Env).le ⟨H.pl,e,H.gh⟩:=⟨λ_ _ h=>h,λb o a=>by show(if _ then _ else _)=_;rw[aj (j b o a)];exact a,λ_ h=>h⟩
 have k:∀b o,H1.ro b=some o->e b=some o:=by
  intro b o a;show(if _ then _ else _)=_
  split
  ·next B=>
   rcases h.aiP b (by rw[a];simp)with h1|h1
   ·cases t:H.ro b with
    |none=>exact absurd t h1
    |some D=>have:=h.uz b D t;rw[a]at this;exact this.symm
   ·omega
  ·exact h.rel.ji b o a
 refine⟨⟨H.pl,e,H.gh⟩,?_,arV (N:=w.heap.size) h.rel h.awq k (λb o a l=>by show(if _ then _ else _)=_;rw[ah (by omega)];exact l) n r i v z A⟩;have g:=h.kept.shut;refine⟨f,⟨d.nH,d.dom,λid o l=>?_,d.jT,d.sep,λb o a=>?_,λid o q u E x=>?_,λp F=>(d.tabs p F).mono f⟩,g.size,λG a _=>g.keep G a,λid o q h1 I L M=>.inr ⟨id,o,q,h1,I,L,M,rfl⟩,g.os,g.tape,g.output,rfl,dY _,λ_ h=>.inl h,λb a=>?_⟩
 ·exact((d.live id o l).heap λq _ m=>g.keep _ m.lt).mono f
 ·have c:(if b<w.heap.size then H.ro b else w1.heap[b]?)=some o:=a;split at c
  ·next y=>rw[g.keep b y];exact d.ji b o c
  ·exact c
 ·have m:=d.at u (show H id=some q from x);show(if q.bl<w.heap.size then H.ro q.bl else w1.heap[q.bl]?)=none
  rw[aj m.lt];exact d.lS id o q u E x
 ·have c:(if b<w.heap.size then H.ro b else w1.heap[b]?)≠none:=a;split at c
  ·exact .inl c
  ·next y=>right;left;omega
def Fn.ahi{call:Caller}{f:FuncId}{J0 J':aA}{args:Q3}{r d:AV}(a:rD P call)(h0:AP J0 P.globals.size)(i:J0.lock=0)(j:AV.oZ 0 args=true)(b:call f args J0=some (r,J'))(n:Nat)(k:uT P J' n r=some d):Fn P f args (· =d):=by
 intro H J w l g m;have c:=g.V5 h0;refine lT.mono (a f args J0 _ _ b _ w l c (aF.ground j m (λ_ _ h=>h))) ?_;rintro v u ⟨x,e,o⟩
 have p:=(jU.start c h0.own).step i e;obtain⟨q,s,t⟩:=p.freeze (H:=H) g k o;exact⟨q,d,rfl,s,t⟩
def eY.av9{f:FuncId}{g:Q3->Option AV}(h:∀args r,g args=some r->Fn P f args (· =r)):eY P f λargs J=>(g args).map (·,J):=by
 intro args J r J' a H w b c d;simp only[bg,og]at a;obtain⟨r0,e,rfl,rfl⟩:=a;refine lT.mono (h args r0 e H J w b c d) ?_;rintro v l ⟨i,r,rfl,j,k⟩
 exact⟨i,j,k⟩
