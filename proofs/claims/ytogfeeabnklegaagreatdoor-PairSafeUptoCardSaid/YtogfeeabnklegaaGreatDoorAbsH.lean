/- Functions without a Go body: what the model does at them, for the evaluator. -/
import Derived.Test.YtogfeeabnklegaaGreatDoorAbsG
import Derived.Laws.Externs
import Derived.Lib.LaidU8
import Derived.ChangeSame
set_option linter.all false
namespace Go.aP
noncomputable section
variable[aJ]
variable{P:Program}{F:Env}{J J':aC}{w:World}
abbrev fO:=Q3->aC->Option (AV×aC)
abbrev W4:=List (FuncId×fO)
def fJ(P:Program)(f:FuncId)(g:fO):Prop:=∀args J r J',g args J=some (r,J')->∀F w a,SR P F J w->aG F args a->
 nG P f ⟨a⟩ w λv c=>∃b,St P F J w b J' c/\VR b r v
def TQ:W4->Tr fO
 |[]=>.nil
 |(k,g)::l=>(TQ l).set k (some g)
def ac8(l:W4):zJ:=(TQ l).get
def amI:∀{l:W4}{f:FuncId}{g:fO},(TQ l).get f=some g->(f,g)∈l
 |[],f,g,h=>by simp[TQ]at h
 |(k,u)::l,f,g,h=>by
  rw[TQ,Tr.yO]at h;split at h
  ·next e=>cases h;subst e;simp
  ·exact zC _ (amI h)
def akW{l:W4}(h:∀p∈l,fJ P p.1 p.2):UF P (ac8 l):=λf g a=>h (f,g) (amI a)
structure Ext(P:Program)(f:FuncId)(e:QR->Sem Value):Prop where
 call:∀args w,(callFunc f args).run P w=((e args).run P w).andThen λv w'=>.ok (.value v) w'
def Ext.mk'{f:FuncId}{fn:Func}{e:QR->Sem Value}(b:P.funcs[f]? =some fn)(a:(fn.name == "runtime.NumGoroutine")=false)
 (c:fn.body.isNone=true) (d:Extern.findNext fn=none) (g:Extern.find fn=some e):Ext P f e:=⟨λargs w=>run_callFunc_extern b a c d g args w⟩
def Ext.EM{f:FuncId}{e:QR->Sem Value}(h:Ext P f e){args:QR}{R:Value->World->Prop}(a:∃v w',(e args).run P w=.ok v w'/\R v w'):nG P f args w R:=by obtain⟨v,w',b,c⟩:=a;exact .inl ⟨v,w',by rw[h.call,b];rfl,c⟩
def SH:fO:=λl J=>match l with|[x]=>some (x,J)|_=>none
def akh{f:FuncId}(h:Ext P f Extern.AbiNoEscape.same):fJ P f SH:=by
 intro args J r J' a F w e c b;unfold SH at a;split at a
 ·cases a;simp only[aG]at b;obtain⟨x,_,rfl,d,rfl⟩:=b;exact h.EM ⟨x,w,rfl,F,St.refl c,d⟩
 ·cases a
def aai(a b:Q0):Int:=Extern.BytealgCompare.cmp ⟨⟨a⟩⟩ ⟨⟨b⟩⟩
def acs:fO:=λl J=>match l with|[.s a,.s b]=>some (.i .i64 (aai a b),J)|_=>none
def ayY{f:FuncId}(h:Ext P f Extern.BytealgCompare.compare):fJ P f acs:=by
 intro args J r J' a F w d c b;unfold acs at a;split at a
 ·cases a;simp only[aG,VR]at b;obtain⟨x,_,rfl,rfl,y,_,rfl,rfl,rfl⟩:=b;refine h.EM ⟨_,w,rfl,F,St.refl c,by simp only[VR];rfl⟩
 ·cases a
def acp:fO:=λl J=>match l with
 |[.i .u64 x,.i .u64 y,.i .u64 c]=>if 0<=x/\0<=y/\0<=c/\c<=1 then some (.fG [.i .u64 ((x+y+c)%18446744073709551616),.i .u64 ((x+y+c)/18446744073709551616)],J)else none
 |_=>none
def ayU{f:FuncId}(h:Ext P f add64Entry):fJ P f acp:=by
 intro args J r J' a F w m e d;unfold acp at a;split at a
 ·next x y c=>
  split at a
  ·next g=>
   cases a;obtain⟨i,j,k,l⟩:=g;simp only[aG,VR]at d;obtain⟨_,_,rfl,rfl,_,_,rfl,rfl,_,_,rfl,rfl,rfl⟩:=d;have b:=run_add64 (P:=P) x y c i j k l w;refine h.EM ⟨_,w,b,F,St.refl e,?_⟩;simp only[VR];refine⟨_,rfl,aG.cons ?_ (aG.cons ?_ (by simp[aG]))⟩<;>simp only[VR]<;>congr 1
  ·cases a
 ·cases a
def acy(P:Program):fO:=λl J=>match l with
 |[.jL t a]=>match tu P (Extern.Rtype.kind t)with
  |some k=>some (.agg [.p P.globals.size t,.p J.next 0,.i .u64 ((k+128:Nat):Int)],J.new (.cells a.cells t true false))
  |none=>none
 |_=>none
def ah8(h:SR P F J w)(t:TypeId):VR F (.p P.globals.size t) (typeHandle P t):=by obtain⟨b,es,a⟩:=h.oO P.globals.size (dP _);simp only[VR];exact⟨_,a,by simp[typeHandle]⟩
def ay3{f:FuncId}(h:Ext P f (λargs=>Extern.ReflectliteValue.unpack (args.getD 0 (.tuple #[])))):fJ P f (acy P):=by
 intro args J r J' b F w z n i;unfold acy at b;split at b
 ·next t a=>
  split at b
  ·next k o=>
   cases b;simp only[aG,VR]at i;obtain⟨_,_,rfl,⟨x,rfl,p⟩,rfl⟩:=i;obtain⟨y,d,s,c,j,l⟩:=afK (t:=t) n p;simp only[VR]at l;obtain⟨q,u,rfl⟩:=l;have g:(newVar t x).run P w=.ok ⟨q.bl,q.ba+0,none⟩ d:=by
    simp only[Instr.box,aZ]at c;cases m:(newVar t x).run P w with
    |ok A v=>rw[m]at c;simp only[aY,bQ,Result.ok.injEq,Value.pointer.injEq,bF]at c;obtain⟨rfl,rfl⟩:=c;rfl
    |halt e v=>rw[m]at c;simp at c
   refine h.EM ⟨.agg #[typeHandle P t,.pointer (some ⟨q.bl,q.ba+0,none⟩),.int .u64 ((k+128:Nat):Int)],d,?_,s,j,?_⟩
   ·show(Extern.ReflectliteValue.unpack (.iface t x)).run P w=_
    simp only[Extern.ReflectliteValue.unpack,Extern.ReflectliteValue.mk,aZ,g,aY,Extern.Rtype.handle,program,Sem.run,bQ,D8 o d];rfl
   ·simp only[VR];exact⟨_,rfl,aG.cons (by simpa only[VR]using ah8 j.rel t) (aG.cons (by simp only[VR];exact⟨q,u,rfl⟩) (aG.cons (by simp only[VR]) (by simp[aG])))⟩
  ·cases b
 ·cases b
def acu(P:Program):fO:=λl J=>match l with
 |[.agg [.p g t,.p id a,.i .u64 f]]=>
  if g=P.globals.size/\0<f/\f.toNat%32=23 then
   match tu P (Extern.Rtype.noPack "a Value asked or handed on" t),tu P (Extern.Rtype.under t),yH P t J (.p id a)with
   |some _,some (_,i),some v=>match i.desc with
    |.slice _=>(UO P J t v).map λn=>(n,J)
    |_=>none
   |_,_,_=>none
  else none
 |_=>none
def aia(t:TypeId){id:Nat}{x:Value}(b:SR P F J w)(c:id=P.globals.size)(h:VR F (.p id t) x):x=typeHandle P t:=by subst c;obtain⟨e,es,d⟩:=b.oO P.globals.size (dP _);simp only[VR]at h;obtain⟨q,a,rfl⟩:=h;rw[d]at a;cases a;simp[typeHandle]
def ab9(t:TypeId):(Extern.Rtype.ofHandle (typeHandle P t)).run P w=.ok t w:=by simp[Extern.Rtype.ofHandle,handleType,typeHandle,program,Sem.run]
def ay0{f:FuncId}(h:Ext P f (Extern.ReflectliteValue.method (Extern.ReflectliteValue.valueError "reflectlite.Value.Len" 0) Extern.ReflectliteValue.len)):fJ P f (acu P):=by
 intro args J r J' d F w vs A H;unfold acu at d;split at d
 ·next g t id b c=>
  split at d
  ·next L=>
   obtain⟨M,I,N⟩:=L;split at d
   ·next u u2 i v O Q R=>
    split at d
    ·next e D=>
     simp only[bJ,qI]at d;obtain⟨n,S,rfl,rfl⟩:=d;simp only[aG]at H;obtain⟨_,_,rfl,o,rfl⟩:=H;rw[VR]at o;obtain⟨ws,rfl,o⟩:=o;simp only[aG]at o;obtain⟨a1,_,rfl,E,a2,_,rfl,k,a3,_,rfl,p,rfl⟩:=o;have T:=aia t A M E;subst T;obtain⟨y,U,V⟩:=Ip A R k;simp only[VR]at k p;obtain⟨q,hq,rfl⟩:=k;subst p;obtain⟨z,W,X⟩:=ajc (ts:=#[t]) (ty:=0) A rfl S V;refine h.EM ⟨z,w,?_,F,St.refl A,X⟩;have Y:c≠0:=ah;have j:(Extern.ReflectliteValue.parts (.agg #[typeHandle P t,.pointer (some ⟨q.bl,q.ba+b,none⟩),.int .u64 c])).run P w=.ok (some (t,⟨q.bl,q.ba+b,none⟩,c.toNat)) w:=by
      have s:(Extern.ReflectliteValue.partsAny (.agg #[typeHandle P t,.pointer (some ⟨q.bl,q.ba+b,none⟩),.int .u64 c])).run P w=.ok (some (t,⟨q.bl,q.ba+b,none⟩,c.toNat)) w:=by
       have D:Extern.ReflectliteValue.partsAny (.agg #[typeHandle P t,.pointer (some ⟨q.bl,q.ba+b,none⟩),.int .u64 c])=(do pure (some (<-Extern.Rtype.ofHandle (typeHandle P t),⟨q.bl,q.ba+b,none⟩,c.toNat))):=by
        obtain⟨m,rfl⟩:∃m:Nat,c=((m+1:Nat):Int):=⟨c.toNat-1,ah⟩
        rfl
       rw[D];simp only[aZ,ab9,aY,bQ]
      unfold Extern.ReflectliteValue.parts;simp only[aZ,s,aY,D8 O w,bQ]
     have x:(Extern.ReflectliteValue.len t ⟨q.bl,q.ba+b,none⟩ c.toNat (c.toNat%32)).run P w=.ok z w:=by
      unfold Extern.ReflectliteValue.len;have G:(loadVar t ⟨q.bl,q.ba+b,none⟩).run P w=.ok y w:=by simpa[Instr.loadAt,Instr.sureAddr]using U
      rw[N];have l:(!([17,18,21,23,24]:Q2).contains 23)=false:=rfl;simp only[l,iZ,if_false,aZ,D8 Q w,aY,D,G,W]
     show(Extern.ReflectliteValue.method _ _ #[_]).run P w=_
     have Z:Extern.ReflectliteValue.method (Extern.ReflectliteValue.valueError "reflectlite.Value.Len" 0) Extern.ReflectliteValue.len #[.agg #[typeHandle P t,.pointer (some ⟨q.bl,q.ba+b,none⟩),.int .u64 c]]=(do
      match <-Extern.ReflectliteValue.parts (.agg #[typeHandle P t,.pointer (some ⟨q.bl,q.ba+b,none⟩),.int .u64 c])with
      |none=>Extern.ReflectliteValue.valueError "reflectlite.Value.Len" 0
      |some (t,a,c)=>Extern.ReflectliteValue.len t a c (c%32)):=rfl
     rw[Z];simp only[aZ,j,aY];exact x
    ·cases d
   ·cases d
  ·cases d
 ·cases d
def aja:AV->Option Nat
 |.iq=>some 0
 |.sl _ _ n _=>some n
 |_=>none
def TL:XS->Nat->Option FuncId
 |[],_=>none
 |(j,f)::l,k=>bif Nat.beq k j then some f else TL l k
def amr:∀{a:XS}{k:Nat}{f:FuncId},TL a k=some f->(k,f)∈a
 |[],k,f,h=>by simp[TL]at h
 |(j,g)::l,k,f,h=>by
  unfold TL at h;cases b:Nat.beq k j with
  |true=>rw[b]at h;cases h;rw[bV b];exact Us
  |false=>rw[b]at h;exact zC _ (amr h)
def afa(P:Program)(a:XS):Prop:=∀p∈a,P.funcs.findIdx? (·.name == "internal/reflectlite" ++ ".Swapper$" ++toString p.1)=some p.2
def acw(P:Program)(a:XS):fO:=λl J=>match l with
 |[.jL t s]=>
  match tu P (Extern.Rtype.elem? t)with
  |some (some e)=>
   match aja s,P.info? e,tu P (Extern.Rtype.kind e)with
   |some n,some i,some b=>
    let k:Nat:=
     if n==0 then 1 else if n==1 then 2
     else if i.hasPointers&&i.bytes==8 then 3
     else if i.hasPointers&&(b==24)then 4
     else if i.hasPointers then 9
     else match i.bytes with|8=>5|4=>6|2=>7|1=>8|_=>9
    match TL a k with
    |some f=>some (.fn f [] (if k<=2 then[]else[s,.p P.globals.size e]),J)
    |none=>none
   |_,_,_=>none
  |_=>none
 |_=>none
def aEz(c:String)(a:Nat->Sem Value)(t:TypeId)(s:Value):Extern.ReflectliteSwapper.swapper c a #[.iface t s]=(do
 let(.slice _ n _,some e):=(s,<-Extern.Rtype.elem? t)|a (<-Extern.Rtype.kind t)
 let i <-typeInfo e
 let b:=(<-Extern.Rtype.kind e)==24
 let k:Nat:=
  if n==0 then 1 else if n==1 then 2
  else if i.hasPointers&&i.bytes==8 then 3
  else if i.hasPointers&&b then 4
  else if i.hasPointers then 9
  else match i.bytes with|8=>5|4=>6|2=>7|1=>8|_=>9
 let h <-Extern.Rtype.handle e
 Extern.ReflectliteSwapper.literal c k (if k<=2 then #[]else #[s,h])):=rfl
def ay2{f:FuncId}(h:Ext P f (Extern.ReflectliteSwapper.swapper "internal/reflectlite" (Extern.ReflectliteValue.valueError "Swapper"))){g:XS}(j:afa P g):fJ P f (acw P g):=by
 intro args J r J' b F w H u v;unfold acw at b;split at b
 ·next t s=>
  split at b
  ·next e z=>
   split at b
   ·next n i A m hi D=>
    simp only at b;split at b
    ·next E d=>
     cases b;simp only[aG,VR]at v;obtain⟨_,_,rfl,⟨x,rfl,l⟩,rfl⟩:=v;have o:∃a c,x=.slice a n c:=by
      cases s<;>simp[aja]at m
      ·subst m;simp only[VR]at l;exact⟨_,_,l⟩
      ·subst m;simp only[VR]at l;obtain⟨q,_,_,rfl⟩:=l;exact⟨_,_,rfl⟩
     obtain⟨a,c,rfl⟩:=o;generalize p:(if(n==0)=true then 1 else if(n==1)=true then 2 else if(i.hasPointers&&i.bytes==8)=true then 3 else if(i.hasPointers&&(A==24))=true then 4 else if i.hasPointers=true then 9 else match i.bytes with|8=>5|4=>6|2=>7|1=>8|_=>9:Nat)=k at *;have d:=j _ (amr d);refine h.EM ⟨.func (.func E) #[] (if k<=2 then #[]else #[.slice a n c,typeHandle P e]),w,?_,F,St.refl u,?_⟩
     ·show(Extern.ReflectliteSwapper.swapper "internal/reflectlite" _ #[.iface t (.slice a n c)]).run P w=_
      have G:=aEz "internal/reflectlite" (Extern.ReflectliteValue.valueError "Swapper") t (.slice a n c);rw[G];simp only[aZ,D8 z w,aY,IQ hi,D8 D w,Extern.Rtype.handle,program,Sem.run,bQ,p,Extern.ReflectliteSwapper.literal,d]
     ·simp only[VR];by_cases y:k<=2
      ·simp only[y,if_true];exact⟨[],[],rfl,by simp[aG],by simp[aG]⟩
      ·simp only[y,if_false];exact⟨[],[_,_],rfl,by simp[aG],aG.cons l (aG.cons (ah8 u e) (by simp[aG]))⟩
    ·cases b
   ·cases b
  ·cases b
 ·cases b
def FQ(P:Program):fO:=λl J=>match l with
 |[.i .i64 i,.i .i64 j,.sl id b n c,.p g e]=>
  if g=P.globals.size/\0<=i/\i<n/\0<=j/\j<n then
   match sizeT P e with
   |some a=>
    match yH P e J (.p id (b+i.toNat*a)),yH P e J (.p id (b+j.toNat*a))with
    |some x,some y=>match GU P e J (.p id (b+i.toNat*a)) y with
     |some d=>match GU P e d (.p id (b+j.toNat*a)) x with
      |some f=>some (.fG [],f)
      |none=>none
     |none=>none
    |_,_=>none
   |none=>none
  else none
 |_=>none
def aje{t:TypeId}{b:Bool}{a:Addr}{y:Value}(h:(Instr.loadAt t (.pointer (some a))).run P w=.ok y w):(loadVar t a).run P w=.ok y w:=by simpa[Instr.loadAt,Instr.sureAddr]using h
def amm{t:TypeId}{a:Addr}{y:Value}{w':World}(h:(Instr.storeAt t (.pointer (some a)) y).run P w=.ok () w'):(storeVar t a y).run P w=.ok () w':=by simpa[Instr.storeAt,Instr.sureAddr]using h
def Lp{f:FuncId}{b:Bool}(h:Ext P f (Extern.ReflectliteSwapper.swap b)):fJ P f (FQ P):=by
 intro args J r J' k F w vs s M;unfold FQ at k;split at k
 ·next i j id a n V g e=>
  split at k
  ·next W=>
   obtain⟨X,Y,Z,aa,ab⟩:=W;split at k
   ·next d t=>
    split at k
    ·next x y hx hy=>
     split at k
     ·next J1 v=>
      split at k
      ·next J2 z=>
       cases k;simp only[aG]at M;obtain⟨v1,_,rfl,N,v2,_,rfl,O,v3,_,rfl,Q,v4,_,rfl,h4,rfl⟩:=M;have e4:=aia e s X h4;subst e4;simp only[VR]at N O Q;subst N;subst O;obtain⟨q,R,ac,rfl⟩:=Q;have S:VR F (.p id (a+i.toNat*d)) (.pointer (some ⟨q.bl,q.ba+(a+i.toNat*d),none⟩)):=by simp only[VR];exact⟨q,R,rfl⟩
       have T:VR F (.p id (a+j.toNat*d)) (.pointer (some ⟨q.bl,q.ba+(a+j.toNat*d),none⟩)):=by simp only[VR];exact⟨q,R,rfl⟩
       obtain⟨u,hu,A⟩:=Ip s hx S;obtain⟨u',D,E⟩:=Ip s hy T;obtain⟨w1,l,m⟩:=Yz s v S E;have G:VR F (.p id (a+j.toNat*d)) (.pointer (some ⟨q.bl,q.ba+(a+j.toNat*d),none⟩)):=T;obtain⟨U,o,H⟩:=Yz m.rel z G A;refine h.EM ⟨.tuple #[],U,?_,F,m.trans H,by simp only[VR];exact⟨[],rfl,by simp[aG]⟩⟩;have p:(Extern.ReflectliteSwapper.exchange e ⟨q.bl,q.ba+a,none⟩ i.toNat j.toNat).run P w=.ok (.tuple #[]) U:=by unfold Extern.ReflectliteSwapper.exchange;have a1:=aje (b:=true) hu;have a2:=aje (b:=true) D;have a3:=amm l;have a4:=amm o;simp only[aZ,jO t,aY,tX,kC,a1,a2,a3,a4,bQ]
       have t1:¬(i<0\/i>=n):=ah;have t2:¬(j<0\/j>=n):=ah;show(Extern.ReflectliteSwapper.swap b #[.int .i64 i,.int .i64 j,.slice (some ⟨q.bl,q.ba+a,none⟩) n _,typeHandle P e]).run P w=_
       cases b
       ·have I:∀c,Extern.ReflectliteSwapper.swap false #[.int .i64 i,.int .i64 j,.slice (some ⟨q.bl,q.ba+a,none⟩) n c,typeHandle P e]=(do
         if i<0 ||i>=n ||j<0 ||j>=n then Extern.ReflectliteSwapper.outOfRange
         Extern.ReflectliteSwapper.exchange (<-Extern.Rtype.ofHandle (typeHandle P e)) ⟨q.bl,q.ba+a,none⟩ i.toNat j.toNat):=λ_=>rfl
        rw[I];have L:(decide (i<0) ||decide (i>=n) ||decide (j<0) ||decide (j>=n))=false:=by simp;omega
        simp only[L,iZ,if_false,aZ,ab9,aY,p]
       ·have I:∀c,Extern.ReflectliteSwapper.swap true #[.int .i64 i,.int .i64 j,.slice (some ⟨q.bl,q.ba+a,none⟩) n c,typeHandle P e]=(do
         if i<0 ||i>=n then boundsPanic .i64 i n .index
         if j<0 ||j>=n then boundsPanic .i64 j n .index
         Extern.ReflectliteSwapper.exchange (<-Extern.Rtype.ofHandle (typeHandle P e)) ⟨q.bl,q.ba+a,none⟩ i.toNat j.toNat):=λ_=>rfl
        rw[I];have L:(decide (i<0) ||decide (i>=n))=false:=by simp;omega
        have t4:(decide (j<0) ||decide (j>=n))=false:=by simp;omega
        simp only[L,t4,iZ,if_false,aZ,ab9,aY,p]
      ·cases k
     ·cases k
    ·cases k
   ·cases k
  ·cases k
 ·cases k
end
noncomputable section
variable[aJ]
variable{P:Program}
open Go.Extern.BytealgMakeNoZero
end
noncomputable section
variable[aJ]
open Go.ChangeShapes Go.WideShapes
variable{P:Program}
def afq{a b:Bool}(c:a=true)(d:b=true):(a&&b)=true:=by rw[c,d];rfl
structure Kept(W W':World):Prop where
 os:W'.os=W.os
 tape:W'.tape=W.tape
 output:W'.output=W.output
 size:W.heap.size<=W'.heap.size
 keep:∀bl,bl<W.heap.size->W'.heap[bl]? =W.heap[bl]?
def Kept.but{W a:World}(h:Kept W a)(m:MemPlace->Prop):W.keptBut a m:=by
 refine⟨h.os,h.output,λi hi=>?_⟩;rw[h.keep i hi];cases b:W.heap[i]? with
 |none=>trivial
 |some o=>cases o<;>first|exact⟨rfl,rfl,rfl,λ_ _=>rfl⟩|exact .inr ⟨rfl,rfl⟩|rfl
def Kept.frozen{W b:World}(h:Kept W b)(a:Addr)(c:a.block<W.heap.size):b.frozen? a=W.frozen? a:=by unfold World.frozen?;rw[h.keep _ c]
def St.kept{F F':Env}{J J':aC}{w w':World}(h:St P F J w F' J' w')(a:∀id o,J.get id=some o->o.own=false):Kept w w':=
 ⟨h.os,h.tape,h.output,h.size,λc d=>h.keep c d λid o q e b _ _=>by rw[a id o e]at b;cases b⟩
def nG.calls{f:FuncId}{fn:Func}{c:Code}{args:QR}{w:World}{R:Value->World->Prop}(g:yD P)(b:P.funcs[f]? =some fn)(d:fn.body=some c)
 (h:nG P f args w R):Calls P f args w λe w'=>∃v,e=.returned v/\R v w':=by
 rcases h with⟨v,w',h,_⟩|⟨_,h⟩
 ·have a:=g f fn c b d;simp only[callFunc,aZ,program,Sem.run,aY,b]at h;simp only[a,iZ,if_false,d,Na,bQ]at h;cases h
 ·exact h
def Calls.mono'{f:FuncId}{args:QR}{w:World}{R a:Ending->World->Prop}(h:Calls P f args w R)(b:∀e w',R e w'->a e w'):Calls P f args w a:=by intro c;obtain⟨e,w',d,g,i⟩:=h c;exact⟨e,w',d,b e w' g,i⟩
def awM{f:FuncId}{fn:Func}{c:Code}{args:Q3}{vs:Q6}{w:World}{F:Env}{J J':aC}{r:AV}{call:Caller}(a:uz P call)(h:yD P)(i:P.funcs[f]? =some fn)(j:fn.body=some c)
 (b:call f args J=some (r,J')) (k:SR P F J w) (l:aG F args vs) (d:∀id o,J.get id=some o->o.own=false):
 Calls P f ⟨vs⟩ w λe w'=>∃v,e=.returned v/\(∃F',VR F' r v)/\Kept w w':=
 Calls.mono' (nG.calls h i j (a f args J r J' b F w vs k l)) λ_ _ ⟨v,m,F',g,n⟩=>⟨v,m,⟨F',n⟩,g.kept d⟩
def xM(n:Nat)(J:aC)(ro:Nat->Option Obj:=λ_=>none):Env:=⟨λid=>if id<=n then some ⟨id,0,(match J.get id with|some (.cells c _ _ _)=>c.length|_=>0),0⟩else none,ro,λ_=>false⟩
structure TabAt(w:World)(g:Nat)(c:Q3):Prop where
 at':∃cs elem fr,w.heap[g]? =some (.cells cs elem fr)/\c.length<=cs.size/\Zv c cs
def Nc{J:aC}{w:World}(I:P.globals.size<J.next)(d:∀id o,J.get id=some o->id<=P.globals.size/\∃c,o=.cells c 0 false false/\TabAt w id c){ro:Qf}(i:∀b o,ro b=some o->w.heap[b]? =some o)(e:∀p∈aJ.tabs,GK (xM P.globals.size J ro) p.1 p.2):SR P (xM P.globals.size J ro) J w:=by
 refine⟨λg j=>?_,λid q l=>?_,λid o s=>?_,λ_ j=>(by cases j),λid o t L q M m n N u=>?_,i,λid o q m n _=>?_,e⟩;rotate_right
 ·obtain⟨_,c,rfl,_⟩:=d id o m;cases n
 ·exact⟨_,_,by simp only[xM];rw[au j]⟩
 ·simp only[xM]at l;split at l
  ·omega
  ·cases l
 ·obtain⟨r,c,rfl,⟨v,f,y,z,A,D⟩⟩:=d id o s;refine .inl ⟨⟨id,0,c.length,0⟩,?_,v,f,y,z,?_⟩
  ·simp only[xM];rw[au r,s]
  ·refine⟨by simpa using A,dP _,λ_=>rfl,λk a E=>?_,(λh=>by cases h),λh=>absurd rfl h,(λh=>by cases h)⟩;obtain⟨x,G,H⟩:=D.1 k a E;exact⟨x,by simpa using G,H.vr⟩
 ·obtain⟨_,c,rfl,_⟩:=d id o m;cases n
def aEP{w:World}{b:String}{k:IntKind}{d:List Int}{g:Nat}(h:Lib.TabIs P w b k d)(j:P.globalNamed b=some g)(c:d.isEmpty=false:=by rfl):TabAt w g (d.map λz=>.i k z):=by
 unfold Lib.TabIs World.var? at h;rw[j]at h;simp only[BD]at h;split at h
 ·next m e n l=>
  cases h;refine⟨_,_,_,l,aA,λi a f=>?_,λ_=>aA,λh=>by simp at h;rw[h]at c;cases c⟩;simp only[jy,bJ]at f;obtain⟨z,c,rfl⟩:=f;exact⟨.int k z,by simp[c],.inl rfl⟩
 ·cases h
def acz(k:IntKind)(n:Nat)(f:Nat->Int):DataW Unit:=.agg ((List.range n).map λi=>.agg ([f (2*i),f (2*i+1)].map λz=>.lit (.int k z)))
def aEQ{w:World}{c:String}{k:IntKind}{n:Nat}{f:Nat->Int}{g:Nat}{t e:TypeId}{fs:Array Field}(h:Lib.VarReads P w c (acz k n f))(O:P.globalNamed c=some g)
 (D:(P.globals[g]?).map (·.type)=some t) (Q:P.underlying t=some (.array n e)) (U:P.underlying e=some (.struct fs))
 (V:∀(m:Nat)(z:Field),fs[m]? =some z->P.underlying z.type=some (.int k)/\z.offset=m/\P.cellsOf z.type=1) (E:fs.size=2)
 (r:P.cellsOf e=2) (G:P.cellsOf t=2*n) (Z:n≠0:=by decide):TabAt w g ((List.range (2*n)).map λj=>.i k (f j)):=by
 obtain⟨g',t',R,i,p,H,I,b,s⟩:=h;obtain rfl:=Jo (O.symm.trans H);obtain rfl:=Jo (D.symm.trans I);have l:R.toList.length=2*n:=by
  cases i with
  |zero=>simp[DataW.trod]at s
  |succ i=>
   simp only[DataW.trod,Q]at s;split at s
   ·next W=>rw[<-G];exact W
   ·cases s
 have o:∀j,j<2*n->R[j]? =some (.int k (f j)):=by
  intro j hj;obtain⟨L,d,q,u,v⟩:=Lib.array_elem Q s (j/2) ah;simp only[jy,aeQ (ah:j/2<n),iJ,bF]at u;subst u;rw[r]at v;have x:=Lib.ints_of_struct U V (by rw[r,E]) v;have M:=uS (·[0]?) x;have N:=uS (·[1]?) x;simp[uI]at M N;by_cases A:j%2=0
  ·have:j/2*2=j:=ah;rw[this]at M;rw[M];congr 3;omega
  ·have:j/2*2+1=j:=ah;rw[this]at N;rw[N];congr 3;omega
 unfold World.var? at b;rw[O]at b;simp only[BD]at b;split at b
 ·next X S fr Y=>
  cases b;refine⟨_,_,_,Y,by simp at l⊢;omega,λj a T=>?_,λ_=>by simp at l⊢;omega,λh=>by simp at h;omega⟩;simp only[jy,bJ]at T;obtain⟨m,A,rfl⟩:=T;have y:j<2*n:=by have:=(gu.1 A).1;simpa using this
  rw[aeQ y]at A;cases A;exact⟨_,o j y,.inl rfl⟩
 ·cases b
def azO{H:Type}{enc:TypeId×Value->H}{f:Func}{s:ChangeSpec}{apart l c again:Bool}{W o:World}{args:QR}{v:Value}{q gs:List (DataW H)}{a pa pv:List MemPlace}
 (x:DataW.Whole enc P f.params.toList s.vars apart W args.toList q gs a)
 (i:∀(b:Nat)(m:Nat->Bool)(D:Bool),DataW.TrodAll enc P o b m D f.resultTypes.toList (v.resultList f.resultTypes.size) (s.fn H (q++gs)).results [])
 (d:∀m:Nat->Bool,(∀p∈a,m p.block=true)->DataW.TrodAll enc P o 0 m true f.params.toList args.toList (s.fn H (q++gs)).args pa)
 (e:∀m:Nat->Bool,(∀p∈a,m p.block=true)->DataW.TrodVars enc P o m s.vars (s.fn H (q++gs)).vars pv)
 (h:a=pa++pv) (A:Kept W o)
 (y:∀(j:Nat)(t:TypeId)(r:Value),f.resultTypes[j]? =some t->(v.resultList f.resultTypes.size)[j]? =some r->Value.okWide P o .any 0 t r):
 s.post enc P f apart l c again W args v o:=by
 have k:∀p∈a,(λb=>decide (b<W.heap.size)) p.block=true:=λp g=>by simpa using x.lt p g
 have z:=λp g=>x.lt p g;refine⟨q,gs,a,[],pa,pv,x,i _ _ _,d _ k,e _ k,World.keptBut_mono (λp g=>⟨g,?_⟩) (A.but (·∈a)),λ_=>?_⟩
 ·rw[h,jP]at g;exact Or.inr g
 ·obtain⟨_,_,_,_,_,E,G⟩:=x;refine⟨y,_,_,([]++pa)++pv,⟨[]++pa,pv,trodAll_append (d _ (λ_ _=>rfl)) (i _ _ _),e _ (λ_ _=>rfl),rfl,?_,?_⟩,?_⟩
  ·intro b n g;have u:MemPlace.cell b n∈a:=by rw[h];simpa using g
   have I:=z _ u;rw[A.frozen ⟨b,n,none⟩ I];exact E b n u
  ·intro L;have:=G L;rw[h]at this;simpa using this
  ·intro p g _;rw[h];simpa using g
end
noncomputable section
variable[aJ]
variable{P:Program}
def nG.mono{f:FuncId}{args:QR}{w:World}{R c:Value->World->Prop}(h:nG P f args w R)(d:∀v w',R v w'->c v w'):nG P f args w c:=by
 rcases h with⟨v,w',a,b⟩|⟨a,b⟩
 ·exact .inl ⟨v,w',a,d v w' b⟩
 ·refine .inr ⟨a,Calls.mono' b ?_⟩;rintro e w' ⟨v,g,i⟩
  exact⟨v,g,d v w' i⟩
def St.ace{F:Env}{J:aC}{w w':World}(h:SR P F J w)(a:Kept w w'):St P F J w F J w':=by refine⟨Env.le.refl _,⟨h.oO,h.dom,λid o d=>?_,h.kZ,h.sep,λb o c=>(a.keep b (xP (h.jF b o c))).trans (h.jF b o c),h.ng,h.tabs⟩,a.size,λe c _=>a.keep e c,λid o q f g i j=>.inr ⟨id,o,q,f,g,i,j,rfl⟩,a.os,a.tape,a.output,rfl,dP _,λ_ h=>.inl h,λ_ h=>.inl h⟩;exact(h.live id o d).heap λq _ k=>a.keep _ k.lt
def GK.at{F:Env}{J:aC}{w:World}(h:SR P F J w){g:Nat}{c:Q3}(b:GK F g c):TabAt w g c:=by obtain⟨d,a,e,f,i,j⟩:=b;exact⟨d,a,e,h.jF _ _ f,i,j⟩
def BI(J0:aC)(n:Nat):Prop:=n<J0.next/\∀id o,J0.get id=some o->∃c,o=.cells c 0 false false/\(id,c)∈aJ.tabs/\id<=n
def SR.YN{F:Env}{J J0:aC}{w:World}(h:SR P F J w)(h0:BI J0 P.globals.size):SR P (xM P.globals.size J0 F.ro) J0 w:=
 Nc h0.1 (λid o d=>by obtain⟨c,rfl,e,b⟩:=h0.2 id o d;exact⟨b,c,rfl,(h.tabs _ e).at h⟩) h.jF (λp f=>by obtain⟨g,a,i,j,k⟩:=h.tabs p f;exact⟨g,a,i,j,k⟩)
def BI.own{J0:aC}{n:Nat}(h:BI J0 n):∀id o,J0.get id=some o->o.own=false:=by intro id o a;obtain⟨c,rfl,_⟩:=h.2 id o a;rfl
def Lm:fO:=λargs J=>match args with
 |[]=>some (.b true,J)
 |_=>none
def ayX{call:Caller}{f:FuncId}{J0 J':aC}(a:uz P call)(h0:BI J0 P.globals.size)(b:call f [] J0=some (.b true,J')):fJ P f Lm:=by
 intro args J r i c F w j e g;unfold Lm at c;split at c
 ·cases c;simp only[aG]at g;subst g;refine nG.mono (a f [] J0 _ _ b _ w [] (e.YN h0) rfl) ?_;rintro v k ⟨l,d,h⟩
  refine⟨F,St.ace e (d.kept h0.own),?_⟩;simp only[VR]at h⊢;exact h
 ·cases c
def VR.ground{F F':Env}{a:AV}{v:Value}(d:a.under 0=true)(h:VR F a v)(c:∀b o,F.ro b=some o->F'.ro b=some o):VR F' a v:=
 VR.mono (F:=F.cut 0) ⟨λid q e=>by simp[Env.cut]at e,c,λid f=>by simp[Env.cut]at f⟩ a v (VR.cut a v d h)
def aG.ground{F F':Env}{l:Q3}{vs:Q6}(c:AV.rX 0 l=true)(h:aG F l vs)(a:∀b o,F.ro b=some o->F'.ro b=some o):aG F' l vs:=
 aG.mono (F:=F.cut 0) ⟨λid q d=>by simp[Env.cut]at d,a,λid e=>by simp[Env.cut]at e⟩ l vs (aG.cut l vs c h)
def grp(agg:Bool)(size:Nat):Nat->List AV->List AV
 |0,_=>[]
 |n+1,cs=>(if agg then .agg (cs.take size)else cs.headD .kG)::grp agg size n (cs.drop size)
def J6(agg:Bool)(size:Nat):Nat->List Value->List Value
 |0,_=>[]
 |n+1,cs=>(if agg then .agg ⟨cs.take size⟩else cs.headD undef)::J6 agg size n (cs.drop size)
def aaZ(agg:Bool)(size:Nat):∀(n:Nat)(l:Q3),(grp agg size n l).length=n
 |0,_=>rfl
 |n+1,l=>by simp[grp,aaZ agg size n]
def ah0{F:Env}{agg:Bool}{size:Nat}(h1:agg=false->size=1):∀(n:Nat)(l:Q3)(xs:Q6),aG F l xs->l.length=n*size->l.all AV.ql=true->
 aG F (grp agg size n l) (J6 agg size n xs)/\(∀x∈J6 agg size n xs,x.cells.size=size)/\eP (J6 agg size n xs)=xs
 |0,l,xs,c,g,_=>by
  have:xs=[]:=by apply kK;rw[<-c.length,g];exact Nat.zero_mul _
  subst this;simp[grp,J6,aG,eP]
 |n+1,l,xs,c,g,b=>by
  have e:=c.length;rw[uJ,Jl]at g;have d:=ah0 h1 n (l.drop size) (xs.drop size) (c.drop size) (by simp;omega) (by rw[List.all_eq_true]at b⊢;exact λa h=>b a (MQ h))
  cases agg with
  |true=>
   simp only[grp,J6,if_true];refine⟨aG.cons (by simp only[VR];exact⟨_,rfl,c.take size⟩) d.1,?_,?_⟩
   ·intro x i;rcases bI.1 i with rfl|i
    ·have:=e;simp[Value.cells];try omega
    ·exact d.2.1 x i
   ·have:=d.2.2;simp only[eP,kV]at this⊢;rw[this];simp[Value.cells]
  |false=>
   have o:=h1 rfl;subst o;cases l with
   |nil=>simp at g
   |cons a l=>
    simp only[aG]at c;obtain⟨x,p,rfl,m,q⟩:=c;have h:=List.all_eq_true.1 b a aA;have j:=ach m h;have f:x.cells =#[x]:=by cases x<;>simp[sW]at j<;>rfl
    simp only[grp,J6,iZ,if_false,List.headD_cons];simp only[Zg,dY]at d⊢;refine⟨aG.cons m d.1,?_,?_⟩
    ·intro y k;rcases bI.1 k with rfl|k
     ·rw[f];rfl
     ·exact d.2.1 y k
    ·have:=d.2.2;simp only[eP,kV]at this⊢;rw[this,f];rfl
def vK(P:Program)(J:aC):Nat->AV->Option AV
 |0,_=>none
 |n+1,a=>
  match a with
  |.sl id off len _=>
   if len=0 then some (.ro [])else
   match J.get id with
   |some (.cells c et true _)=>
    match sizeT P et,qp P et with
    |some size,some agg=>
     if(agg=true/\0<size)\/size=1 then
      match takeN c off (len*size)with
      |some cs=>match wY (vK P J n) cs with
       |some b=>if b.all AV.ql then some (.ro (grp agg size len b))else none
       |none=>none
      |none=>none
     else none
    |_,_=>none
   |_=>none
  |.iq=>some (.ro [])
  |.agg l=>(wY (vK P J n) l).map .agg
  |.fG l=>(wY (vK P J n) l).map .fG
  |.jL t x=>(vK P J n x).map (.jL t)
  |a=>if a.under 0 then some a else none
def ayN{F F':Env}{f:AV->Option AV}(i:∀a r v,f a=some r->VR F a v->VR F' r v){l r:Q3}{vs:Q6}(h:wY f l=some r)(d:aG F l vs):aG F' r vs:=by
 obtain⟨j,m⟩:=OO h;refine aG.of (by rw[<-j];exact d.length) λk a e=>?_;have b:k<l.length:=by have:=(gu.1 e).1;omega
 obtain⟨y,g,c⟩:=m k _ (bZ b);rw[e]at g;cases g;obtain⟨x,n,o⟩:=d.at (bZ b);exact⟨x,n,i _ _ _ c o⟩
def auv{F F':Env}{J:aC}{w:World}{N:Nat}(h:SR P F J w)(s:∀id o q,J.get id=some o->o.own=true->F id=some q->N<=q.bl)
 (L:∀b o,F.ro b=some o->F'.ro b=some o) (t:∀b o,N<=b->w.heap[b]? =some o->F'.ro b=some o):∀(n:Nat)(a r:AV)(v:Value),vK P J n a=some r->VR F a v->VR F' r v:=by
 intro n;induction n with
 |zero=>intro a r v d;simp[vK]at d
 |succ n U=>
  intro a r v d f;have j:∀(l r:Q3)(m:Q6),wY (vK P J n) l=some r->aG F l m->aG F' r m:=λl r m h1 h2=>ayN U h1 h2;unfold vK at d;split at d
  ·next id M len aa=>
   simp only[VR]at f;obtain⟨q,V,O,rfl⟩:=f;split at d
   ·next W=>cases d;subst W;exact Tn
   ·next W=>
    split at d
    ·next c et ab X=>
     split at d
     ·next g Q hs ha=>
      split at d
      ·next R=>
       split at d
       ·next cs p=>
        split at d
        ·next ds u=>
         split at d
         ·next z=>
          cases d;obtain⟨q',A,ws,D,fr,hb,Y⟩:=h.obj _ _ X rfl;rw[V]at A;cases A;have i:=j _ _ _ u (Y.Bf p);have E:=(vg p).2.1;have G:=(OO u).1;have H:Q=false->g=1:=λe=>R.elim (λh=>absurd (h.1.symm.trans e) aA) (λh=>h);obtain⟨g1,g2,g3⟩:=ah0 H len ds _ i (by rw[<-G,E]) z;have Z:=Y.take p;have S:=i.length;simp only[VR];right;refine⟨q.bl,q.ba+M,_,_,g,by rw[aaZ],by rw[aaZ];exact O,g1,g2,λ_=>⟨ws,D,fr,t _ _ (s id _ q X rfl V) hb,?_,?_⟩⟩
          ·rw[g3];rw[<-S,<-G,E];have:0<len*g:=Qd ah ah;omega
          ·rw[g3];intro k x I;rw[oh]at I;split at I
           ·rw[uI,yw]at I;exact I
           ·cases I
         ·cases d
        ·cases d
       ·cases d
      ·cases d
     ·cases d
    ·cases d
  ·cases d;simp only[VR]at f⊢;exact .inl ⟨trivial,_,f⟩
  ·simp only[bJ]at d;obtain⟨l',T,rfl⟩:=d;simp only[VR]at f⊢;obtain⟨m,rfl,f⟩:=f;exact⟨m,rfl,j _ _ _ T f⟩
  ·simp only[bJ]at d;obtain⟨l',T,rfl⟩:=d;simp only[VR]at f⊢;obtain⟨m,rfl,f⟩:=f;exact⟨m,rfl,j _ _ _ T f⟩
  ·simp only[bJ]at d;obtain⟨x',hx,rfl⟩:=d;simp only[VR]at f⊢;obtain⟨y,rfl,f⟩:=f;exact⟨y,rfl,U _ _ _ hx f⟩
  ·split at d
   ·next hu=>cases d;exact VR.ground hu f L
   ·cases d
structure Base where
 w:World
 hole:Nat->Prop
 anch:Nat->Option Place
structure Un(b:Base)(W':World):Prop where
 os:W'.os=b.w.os
 tape:W'.tape=b.w.tape
 output:W'.output=b.w.output
 size:b.w.heap.size<=W'.heap.size
 keep:∀bl,bl<b.w.heap.size->¬b.hole bl->W'.heap[bl]? =b.w.heap[bl]?
def Base.shut(w:World):Base:=⟨w,λ_=>False,λ_=>none⟩
structure lD(P:Program)(w0:Base)(fB:Qf)(F:Env)(J:aC)(w:World):Prop where
 rel:SR P F J w
 kept:Un w0 w
 own:∀id o q,J.get id=some o->o.own=true->F id=some q->w0.w.heap.size<=q.bl\/w0.hole q.bl
 xg:∀b o,fB b=some o->F.ro b=some o
 tC:∀b,F.ro b≠none->fB b≠none\/w0.w.heap.size<=b\/w0.hole b
 uN:∀i q,w0.anch i=some q->F i=some q/\P.globals.size<i/\i<=P.globals.size+iI.ka
def Kept.refl(w:World):Kept w w:=⟨rfl,rfl,rfl,dP _,λ_ _=>rfl⟩
def lD.start{F:Env}{J:aC}{w:World}(h:SR P F J w)(a:∀id o,J.get id=some o->o.own=false):lD P (.shut w) F.ro F J w:=
 ⟨h,⟨rfl,rfl,rfl,dP _,λ_ _ _=>rfl⟩,λid o q c b=>(by rw[a id o c]at b;cases b),λ_ _ h=>h,λ_ h=>.inl h,λ_ _ h=>by cases h⟩
def Un.shut{w w':World}(h:Un (.shut w) w'):Kept w w':=⟨h.os,h.tape,h.output,h.size,λa b=>h.keep a b (λe=>e)⟩
def lD.ayT{w:World}{d:Qf}{F:Env}{J:aC}{w':World}(h:lD P (.shut w) d F J w'):∀id o q,J.get id=some o->o.own=true->F id=some q->w.heap.size<=q.bl:=by
 intro id o q a b c;rcases h.own id o q a b c with h1|h1
 ·exact h1
 ·cases h1
def lD.alx{w:World}{a:Qf}{F:Env}{J:aC}{w':World}(h:lD P (.shut w) a F J w'):∀b,F.ro b≠none->a b≠none\/w.heap.size<=b:=by
 intro b c;rcases h.tC b c with h1|h1|h1
 ·exact .inl h1
 ·exact .inr h1
 ·cases h1
def lD.step{w0:Base}{l:Qf}{F F':Env}{J J':aC}{w w':World}(h:lD P w0 l F J w)(p:J.lock=0)(k:St P F J w F' J' w'):lD P w0 l F' J' w':=by
 refine⟨k.rel,⟨k.os.trans h.kept.os,k.tape.trans h.kept.tape,k.output.trans h.kept.output,kW h.kept.size k.size,λm c n=>?_⟩,λid o q h1 r s=>?_,λb o c=>k.ext.ro b o (h.xg b o c),λb c=>?_,λi q hi=>⟨k.ext.pl _ _ (h.uN i q hi).1,(h.uN i q hi).2⟩⟩
 ·rw[k.keep m (zH c h.kept.size) (λid o q f t _ u=>by
   rcases h.own id o q f t u with h1|h1
   ·omega
   ·intro e;rw[e]at h1;exact n h1)]
  exact h.kept.keep m c n
 ·rcases k.own id o q h1 r (by rw[p];exact vG _) s with v|⟨g,o0,j,a,b,_,d,e⟩
  ·exact .inl (kW h.kept.size v)
  ·rw[<-e];exact h.own g o0 j a b d
 ·rcases k.tC b c with h1|h1|⟨g,o0,j,f,x,z,d1,y⟩
  ·exact h.tC b h1
  ·exact .inr (.inl (kW h.kept.size h1))
  ·right;rw[<-y];exact h.own g o0 j f x d1
def Fn(P:Program)(f:FuncId)(args:Q3)(R:AV->Prop):Prop:=∀F J w a,SR P F J w->aG F args a->nG P f ⟨a⟩ w λv c=>∃b r,R r/\St P F J w b J c/\VR b r v
def lD.freeze{F F1:Env}{J s:aC}{w w1:World}(d:SR P F J w)(h:lD P (.shut w) F.ro F1 s w1){n:Nat}{r i:AV}{v:Value}(z:vK P s n r=some i)(A:VR F1 r v):
 ∃F',St P F J w F' J w1/\VR F' i v:=by
 let e:Nat->Option Obj:=λb=>if b<w.heap.size then F.ro b else w1.heap[b]?
 have j:∀b o,F.ro b=some o->b<w.heap.size:=λb o a=>xP (d.jF b o a);have f:(F:Env).le ⟨F.pl,e,F.gh⟩:=⟨λ_ _ h=>h,λb o a=>by show(if _ then _ else _)=_;rw[au (j b o a)];exact a,λ_ h=>h⟩
 have k:∀b o,F1.ro b=some o->e b=some o:=by
  intro b o a;show(if _ then _ else _)=_
  split
  ·next D=>
   rcases h.alx b (by rw[a];simp)with h1|h1
   ·cases t:F.ro b with
    |none=>exact absurd t h1
    |some E=>have:=h.xg b E t;rw[a]at this;exact this.symm
   ·omega
  ·exact h.rel.jF b o a
 refine⟨⟨F.pl,e,F.gh⟩,?_,auv (N:=w.heap.size) h.rel h.ayT k (λb o a l=>by show(if _ then _ else _)=_;rw[aj ah];exact l) n r i v z A⟩;have g:=h.kept.shut;refine⟨f,⟨d.oO,d.dom,λid o l=>?_,d.kZ,d.sep,λb o a=>?_,λid o q u G x=>?_,λp H=>(d.tabs p H).mono f⟩,g.size,λI a _=>g.keep I a,λid o q h1 L M O=>.inr ⟨id,o,q,h1,L,M,O,rfl⟩,g.os,g.tape,g.output,rfl,dP _,λ_ h=>.inl h,λb a=>?_⟩
 ·exact((d.live id o l).heap λq _ m=>g.keep _ m.lt).mono f
 ·have c:(if b<w.heap.size then F.ro b else w1.heap[b]?)=some o:=a;split at c
  ·next y=>rw[g.keep b y];exact d.jF b o c
  ·exact c
 ·have m:=d.at u (show F id=some q from x);show(if q.bl<w.heap.size then F.ro q.bl else w1.heap[q.bl]?)=none
  rw[au m.lt];exact d.ng id o q u G x
 ·have c:(if b<w.heap.size then F.ro b else w1.heap[b]?)≠none:=a;split at c
  ·exact .inl c
  ·next y=>right;left;omega
def Fn.acd{call:Caller}{f:FuncId}{J0 J':aC}{args:Q3}{r d:AV}(a:uz P call)(h0:BI J0 P.globals.size)(i:J0.lock=0)(j:AV.rX 0 args=true)(b:call f args J0=some (r,J'))(n:Nat)(k:vK P J' n r=some d):Fn P f args (· =d):=by
 intro F J w l g m;have c:=g.YN h0;refine nG.mono (a f args J0 _ _ b _ w l c (aG.ground j m (λ_ _ h=>h))) ?_;rintro v u ⟨x,e,o⟩
 have p:=(lD.start c h0.own).step i e;obtain⟨q,s,t⟩:=p.freeze (F:=F) g k o;exact⟨q,d,rfl,s,t⟩
def fJ.ayE{f:FuncId}{g:Q3->Option AV}(h:∀args r,g args=some r->Fn P f args (· =r)):fJ P f λargs J=>(g args).map (·,J):=by
 intro args J r J' a F w b c d;simp only[bJ,qI]at a;obtain⟨r0,e,rfl,rfl⟩:=a;refine nG.mono (h args r0 e F J w b c d) ?_;rintro v l ⟨i,r,rfl,j,k⟩
 exact⟨i,j,k⟩
