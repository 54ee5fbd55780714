/- Functions without a Go body: what the model does at them, for the evaluator. -/
import Derived.Test.YtkoclengoeonnaaGreatDoorAbsG
import Derived.Laws.Externs
import Derived.Lib.LaidU8
import Derived.ChangeSame
set_option linter.all false
namespace Go.aP
noncomputable section
variable[aJ]
variable{P:Program}{F:Env}{J J':aC}{w:World}
abbrev dM:=Q3->aC->Option (AV×aC)
abbrev W2:=List (FuncId×dM)
def dK(P:Program)(f:FuncId)(g:dM):Prop:=∀args J r J',g args J=some (r,J')->∀F w a,SR P F J w->aG F args a->
 lC P f ⟨a⟩ w λv c=>∃b,St P F J w b J' c/\VR b r v
def QL:W2->Tr dM
 |[]=>.nil
 |(k,g)::l=>(QL l).set k (some g)
def abt(l:W2):xU:=(QL l).get
def akd:∀{l:W2}{f:FuncId}{g:dM},(QL l).get f=some g->(f,g)∈l
 |[],f,g,h=>by simp[QL]at h
 |(k,u)::l,f,g,h=>by
  rw[QL,Tr.uN]at h;split at h
  ·next e=>cases h;subst e;simp
  ·exact xP _ (akd h)
def aiN{l:W2}(h:∀p∈l,dK P p.1 p.2):Ru P (abt l):=λf g a=>h (f,g) (akd a)
structure Ext(P:Program)(f:FuncId)(e:QQ->Sem Value):Prop where
 call:∀args w,(callFunc f args).run P w=((e args).run P w).andThen λv w'=>.ok (.value v) w'
def Ext.mk'{f:FuncId}{fn:Func}{e:QQ->Sem Value}(b:P.funcs[f]? =some fn)(a:(fn.name == "runtime.NumGoroutine")=false)
 (c:fn.body.isNone=true) (d:Extern.findNext fn=none) (g:Extern.find fn=some e):Ext P f e:=⟨λargs w=>run_callFunc_extern b a c d g args w⟩
def Ext.xZ{f:FuncId}{e:QQ->Sem Value}(h:Ext P f e){args:QQ}{R:Value->World->Prop}(a:∃v w',(e args).run P w=.ok v w'/\R v w'):lC P f args w R:=by obtain⟨v,w',b,c⟩:=a;exact .inl ⟨v,w',by rw[h.call,b];rfl,c⟩
def Qm:dM:=λl J=>match l with|[x]=>some (x,J)|_=>none
def ah8{f:FuncId}(h:Ext P f Extern.AbiNoEscape.same):dK P f Qm:=by
 intro args J r J' a F w e c b;unfold Qm at a;split at a
 ·cases a;simp only[aG]at b;obtain⟨x,_,rfl,d,rfl⟩:=b;exact h.xZ ⟨x,w,rfl,F,St.refl c,d⟩
 ·cases a
def Yr(a b:Q0):Int:=Extern.BytealgCompare.cmp ⟨⟨a⟩⟩ ⟨⟨b⟩⟩
def aaD:dM:=λl J=>match l with|[.s a,.s b]=>some (.i .i64 (Yr a b),J)|_=>none
def avG{f:FuncId}(h:Ext P f Extern.BytealgCompare.compare):dK P f aaD:=by
 intro args J r J' a F w d c b;unfold aaD at a;split at a
 ·cases a;simp only[aG,VR]at b;obtain⟨x,_,rfl,rfl,y,_,rfl,rfl,rfl⟩:=b;refine h.xZ ⟨_,w,rfl,F,St.refl c,by simp only[VR];rfl⟩
 ·cases a
def countB(a:Q0)(c:Int):Int:=(⟨⟨a⟩⟩:ByteArray).foldl (λ(n:Int) x=>if x==c.toNat.toUInt8 then n+1 else n) ((0:Nat):Int)
def aaE:dM:=λl J=>match l with|[.s a,.i .u8 c]=>some (.i .i64 (countB a c),J)|_=>none
def avH{f:FuncId}(h:Ext P f Extern.BytealgCount.count):dK P f aaE:=by
 intro args J r J' a F w d c b;unfold aaE at a;split at a
 ·cases a;simp only[aG,VR]at b;obtain⟨x,_,rfl,rfl,y,_,rfl,rfl,rfl⟩:=b;refine h.xZ ⟨_,w,rfl,F,St.refl c,by simp only[VR];rfl⟩
 ·cases a
def indexB(a:Q0)(c:Int):QR:=(List.range (⟨⟨a⟩⟩:ByteArray).size).find? λi=>(⟨⟨a⟩⟩:ByteArray)[i]! ==c.toNat.toUInt8
def aaF:dM:=λl J=>match l with
 |[.s a,.i .u8 c]=>match indexB a c with
  |some i=>some (.i .i64 i,J)
  |none=>some (.i .i64 (-1),J)
 |_=>none
def avJ{f:FuncId}(h:Ext P f Extern.BytealgIndexByte.indexByte):dK P f aaF:=by
 intro args J r J' d F w j e g;unfold aaF at d;split at d
 ·next a c=>
  simp only[aG,VR]at g;obtain⟨x,_,rfl,rfl,y,_,rfl,rfl,rfl⟩:=g;split at d
  ·next i hi=>
   cases d;refine h.xZ ⟨.int .i64 i,w,?_,F,St.refl e,by simp only[VR]⟩;have b:((List.range (⟨⟨a⟩⟩:ByteArray).size).find? λi=>(⟨⟨a⟩⟩:ByteArray)[i]! ==c.toNat.toUInt8)=some i:=hi;show(match(List.range (⟨⟨a⟩⟩:ByteArray).size).find? (λi=>(⟨⟨a⟩⟩:ByteArray)[i]! ==c.toNat.toUInt8)with|some i=>(pure (goInt i):Sem Value)|none=>pure (goInt (-1))).run P w=_
   rw[b];rfl
  ·next hi=>
   cases d;refine h.xZ ⟨.int .i64 (-1),w,?_,F,St.refl e,by simp only[VR]⟩;have b:((List.range (⟨⟨a⟩⟩:ByteArray).size).find? λi=>(⟨⟨a⟩⟩:ByteArray)[i]! ==c.toNat.toUInt8)=none:=hi;show(match(List.range (⟨⟨a⟩⟩:ByteArray).size).find? (λi=>(⟨⟨a⟩⟩:ByteArray)[i]! ==c.toNat.toUInt8)with|some i=>(pure (goInt i):Sem Value)|none=>pure (goInt (-1))).run P w=_
   rw[b];rfl
 ·cases d
def aaB:dM:=λl J=>match l with
 |[.i .u64 x,.i .u64 y,.i .u64 c]=>if 0<=x/\0<=y/\0<=c/\c<=1 then some (.dU [.i .u64 ((x+y+c)%18446744073709551616),.i .u64 ((x+y+c)/18446744073709551616)],J)else none
 |_=>none
def avC{f:FuncId}(h:Ext P f add64Entry):dK P f aaB:=by
 intro args J r J' a F w m e d;unfold aaB at a;split at a
 ·next x y c=>
  split at a
  ·next g=>
   cases a;obtain⟨i,j,k,l⟩:=g;simp only[aG,VR]at d;obtain⟨_,_,rfl,rfl,_,_,rfl,rfl,_,_,rfl,rfl,rfl⟩:=d;have b:=run_add64 (P:=P) x y c i j k l w;refine h.xZ ⟨_,w,b,F,St.refl e,?_⟩;simp only[VR];refine⟨_,rfl,aG.cons ?_ (aG.cons ?_ (by simp[aG]))⟩<;>simp only[VR]<;>congr 1
  ·cases a
 ·cases a
def aaK(P:Program):dM:=λl J=>match l with
 |[.jh t a]=>match qG P (Extern.Rtype.kind t)with
  |some k=>some (.agg [.p P.globals.size t,.p J.next 0,.i .u64 ((k+128:Nat):Int)],J.new (.cells a.cells t true false))
  |none=>none
 |_=>none
def agp(h:SR P F J w)(t:TypeId):VR F (.p P.globals.size t) (typeHandle P t):=by obtain⟨b,es,a⟩:=h.mJ P.globals.size (cO _);simp only[VR];exact⟨_,a,by simp[typeHandle]⟩
def avO{f:FuncId}(h:Ext P f (λargs=>Extern.ReflectliteValue.unpack (args.getD 0 (.tuple #[])))):dK P f (aaK P):=by
 intro args J r J' b F w z n i;unfold aaK at b;split at b
 ·next t a=>
  split at b
  ·next k o=>
   cases b;simp only[aG,VR]at i;obtain⟨_,_,rfl,⟨x,rfl,p⟩,rfl⟩:=i;obtain⟨y,d,s,c,j,l⟩:=ad8 (t:=t) n p;simp only[VR]at l;obtain⟨q,u,rfl⟩:=l;have g:(newVar t x).run P w=.ok ⟨q.bl,q.ba+0,none⟩ d:=by
    simp only[Instr.box,aU]at c;cases m:(newVar t x).run P w with
    |ok A v=>rw[m]at c;simp only[aT,bH,Result.ok.injEq,Value.pointer.injEq,aY]at c;obtain⟨rfl,rfl⟩:=c;rfl
    |halt e v=>rw[m]at c;simp at c
   refine h.xZ ⟨.agg #[typeHandle P t,.pointer (some ⟨q.bl,q.ba+0,none⟩),.int .u64 ((k+128:Nat):Int)],d,?_,s,j,?_⟩
   ·show(Extern.ReflectliteValue.unpack (.iface t x)).run P w=_
    simp only[Extern.ReflectliteValue.unpack,Extern.ReflectliteValue.mk,aU,g,aT,Extern.Rtype.handle,program,Sem.run,bH,CJ o d];rfl
   ·simp only[VR];exact⟨_,rfl,aG.cons (by simpa only[VR]using agp j.rel t) (aG.cons (by simp only[VR];exact⟨q,u,rfl⟩) (aG.cons (by simp only[VR]) (by simp[aG])))⟩
  ·cases b
 ·cases b
def aaG(P:Program):dM:=λl J=>match l with
 |[.agg [.p g t,.p id a,.i .u64 f]]=>
  if g=P.globals.size/\0<f/\f.toNat%32=23 then
   match qG P (Extern.Rtype.noPack "a Value asked or handed on" t),qG P (Extern.Rtype.under t),wO P t J (.p id a)with
   |some _,some (_,i),some v=>match i.desc with
    |.slice _=>(RH P J t v).map λn=>(n,J)
    |_=>none
   |_,_,_=>none
  else none
 |_=>none
def agr(t:TypeId){id:Nat}{x:Value}(b:SR P F J w)(c:id=P.globals.size)(h:VR F (.p id t) x):x=typeHandle P t:=by subst c;obtain⟨e,es,d⟩:=b.mJ P.globals.size (cO _);simp only[VR]at h;obtain⟨q,a,rfl⟩:=h;rw[d]at a;cases a;simp[typeHandle]
def aas(t:TypeId):(Extern.Rtype.ofHandle (typeHandle P t)).run P w=.ok t w:=by simp[Extern.Rtype.ofHandle,handleType,typeHandle,program,Sem.run]
def avK{f:FuncId}(h:Ext P f (Extern.ReflectliteValue.method (Extern.ReflectliteValue.valueError "reflectlite.Value.Len" 0) Extern.ReflectliteValue.len)):dK P f (aaG P):=by
 intro args J r J' d F w vs A G;unfold aaG at d;split at d
 ·next g t id b c=>
  split at d
  ·next I=>
   obtain⟨L,H,M⟩:=I;split at d
   ·next u u2 i v N O R=>
    split at d
    ·next e B=>
     simp only[bn,oD]at d;obtain⟨n,S,rfl,rfl⟩:=d;simp only[aG]at G;obtain⟨_,_,rfl,o,rfl⟩:=G;rw[VR]at o;obtain⟨ws,rfl,o⟩:=o;simp only[aG]at o;obtain⟨a1,_,rfl,D,a2,_,rfl,k,a3,_,rfl,p,rfl⟩:=o;have T:=agr t A L D;subst T;obtain⟨y,U,V⟩:=Gh A R k;simp only[VR]at k p;obtain⟨q,hq,rfl⟩:=k;subst p;obtain⟨z,W,X⟩:=ahb (ts:=#[t]) (ty:=0) A rfl S V;refine h.xZ ⟨z,w,?_,F,St.refl A,X⟩;have Y:c≠0:=ah;have j:(Extern.ReflectliteValue.parts (.agg #[typeHandle P t,.pointer (some ⟨q.bl,q.ba+b,none⟩),.int .u64 c])).run P w=.ok (some (t,⟨q.bl,q.ba+b,none⟩,c.toNat)) w:=by
      have s:(Extern.ReflectliteValue.partsAny (.agg #[typeHandle P t,.pointer (some ⟨q.bl,q.ba+b,none⟩),.int .u64 c])).run P w=.ok (some (t,⟨q.bl,q.ba+b,none⟩,c.toNat)) w:=by
       have B:Extern.ReflectliteValue.partsAny (.agg #[typeHandle P t,.pointer (some ⟨q.bl,q.ba+b,none⟩),.int .u64 c])=(do pure (some (<-Extern.Rtype.ofHandle (typeHandle P t),⟨q.bl,q.ba+b,none⟩,c.toNat))):=by
        obtain⟨m,rfl⟩:∃m:Nat,c=((m+1:Nat):Int):=⟨c.toNat-1,ah⟩
        rfl
       rw[B];simp only[aU,aas,aT,bH]
      unfold Extern.ReflectliteValue.parts;simp only[aU,s,aT,CJ N w,bH]
     have x:(Extern.ReflectliteValue.len t ⟨q.bl,q.ba+b,none⟩ c.toNat (c.toNat%32)).run P w=.ok z w:=by
      unfold Extern.ReflectliteValue.len;have E:(loadVar t ⟨q.bl,q.ba+b,none⟩).run P w=.ok y w:=by simpa[Instr.loadAt,Instr.sureAddr]using U
      rw[M];have l:(!([17,18,21,23,24]:Q2).contains 23)=false:=rfl;simp only[l,ig,if_false,aU,CJ O w,aT,B,E,W]
     show(Extern.ReflectliteValue.method _ _ #[_]).run P w=_
     have Z:Extern.ReflectliteValue.method (Extern.ReflectliteValue.valueError "reflectlite.Value.Len" 0) Extern.ReflectliteValue.len #[.agg #[typeHandle P t,.pointer (some ⟨q.bl,q.ba+b,none⟩),.int .u64 c]]=(do
      match <-Extern.ReflectliteValue.parts (.agg #[typeHandle P t,.pointer (some ⟨q.bl,q.ba+b,none⟩),.int .u64 c])with
      |none=>Extern.ReflectliteValue.valueError "reflectlite.Value.Len" 0
      |some (t,a,c)=>Extern.ReflectliteValue.len t a c (c%32)):=rfl
     rw[Z];simp only[aU,j,aT];exact x
    ·cases d
   ·cases d
  ·cases d
 ·cases d
def ag9:AV->Option Nat
 |.gy=>some 0
 |.sl _ _ n _=>some n
 |_=>none
def QH:XN->Nat->Option FuncId
 |[],_=>none
 |(j,f)::l,k=>bif Nat.beq k j then some f else QH l k
def ajR:∀{a:XN}{k:Nat}{f:FuncId},QH a k=some f->(k,f)∈a
 |[],k,f,h=>by simp[QH]at h
 |(j,g)::l,k,f,h=>by
  unfold QH at h;cases b:Nat.beq k j with
  |true=>rw[b]at h;cases h;rw[bM b];exact Ri
  |false=>rw[b]at h;exact xP _ (ajR h)
def adA(P:Program)(a:XN):Prop:=∀p∈a,P.funcs.findIdx? (·.name == "internal/reflectlite" ++ ".Swapper$" ++toString p.1)=some p.2
def aaJ(P:Program)(a:XN):dM:=λl J=>match l with
 |[.jh t s]=>
  match qG P (Extern.Rtype.elem? t)with
  |some (some e)=>
   match ag9 s,P.info? e,qG P (Extern.Rtype.kind e)with
   |some n,some i,some b=>
    let k:Nat:=
     if n==0 then 1 else if n==1 then 2
     else if i.hasPointers&&i.bytes==8 then 3
     else if i.hasPointers&&(b==24)then 4
     else if i.hasPointers then 9
     else match i.bytes with|8=>5|4=>6|2=>7|1=>8|_=>9
    match QH a k with
    |some f=>some (.fn f [] (if k<=2 then[]else[s,.p P.globals.size e]),J)
    |none=>none
   |_,_,_=>none
  |_=>none
 |_=>none
def aAS(c:String)(a:Nat->Sem Value)(t:TypeId)(s:Value):Extern.ReflectliteSwapper.swapper c a #[.iface t s]=(do
 let(.slice _ n _,some e):=(s,<-Extern.Rtype.elem? t)|a (<-Extern.Rtype.kind t)
 let i <-typeInfo e
 let b:=(<-Extern.Rtype.kind e)==24
 let k:Nat:=
  if n==0 then 1 else if n==1 then 2
  else if i.hasPointers&&i.bytes==8 then 3
  else if i.hasPointers&&b then 4
  else if i.hasPointers then 9
  else match i.bytes with|8=>5|4=>6|2=>7|1=>8|_=>9
 let h <-Extern.Rtype.handle e
 Extern.ReflectliteSwapper.literal c k (if k<=2 then #[]else #[s,h])):=rfl
def avN{f:FuncId}(h:Ext P f (Extern.ReflectliteSwapper.swapper "internal/reflectlite" (Extern.ReflectliteValue.valueError "Swapper"))){g:XN}(j:adA P g):dK P f (aaJ P g):=by
 intro args J r J' b F w G u v;unfold aaJ at b;split at b
 ·next t s=>
  split at b
  ·next e z=>
   split at b
   ·next n i A m hi B=>
    simp only at b;split at b
    ·next D d=>
     cases b;simp only[aG,VR]at v;obtain⟨_,_,rfl,⟨x,rfl,l⟩,rfl⟩:=v;have o:∃a c,x=.slice a n c:=by
      cases s<;>simp[ag9]at m
      ·subst m;simp only[VR]at l;exact⟨_,_,l⟩
      ·subst m;simp only[VR]at l;obtain⟨q,_,_,rfl⟩:=l;exact⟨_,_,rfl⟩
     obtain⟨a,c,rfl⟩:=o;generalize p:(if(n==0)=true then 1 else if(n==1)=true then 2 else if(i.hasPointers&&i.bytes==8)=true then 3 else if(i.hasPointers&&(A==24))=true then 4 else if i.hasPointers=true then 9 else match i.bytes with|8=>5|4=>6|2=>7|1=>8|_=>9:Nat)=k at *;have d:=j _ (ajR d);refine h.xZ ⟨.func (.func D) #[] (if k<=2 then #[]else #[.slice a n c,typeHandle P e]),w,?_,F,St.refl u,?_⟩
     ·show(Extern.ReflectliteSwapper.swapper "internal/reflectlite" _ #[.iface t (.slice a n c)]).run P w=_
      have E:=aAS "internal/reflectlite" (Extern.ReflectliteValue.valueError "Swapper") t (.slice a n c);rw[E];simp only[aU,CJ z w,aT,Gy hi,CJ B w,Extern.Rtype.handle,program,Sem.run,bH,p,Extern.ReflectliteSwapper.literal,d]
     ·simp only[VR];by_cases y:k<=2
      ·simp only[y,if_true];exact⟨[],[],rfl,by simp[aG],by simp[aG]⟩
      ·simp only[y,if_false];exact⟨[],[_,_],rfl,by simp[aG],aG.cons l (aG.cons (agp u e) (by simp[aG]))⟩
    ·cases b
   ·cases b
  ·cases b
 ·cases b
def Eo(P:Program):dM:=λl J=>match l with
 |[.i .i64 i,.i .i64 j,.sl id b n c,.p g e]=>
  if g=P.globals.size/\0<=i/\i<n/\0<=j/\j<n then
   match sizeT P e with
   |some a=>
    match wO P e J (.p id (b+i.toNat*a)),wO P e J (.p id (b+j.toNat*a))with
    |some x,some y=>match Fe P e J (.p id (b+i.toNat*a)) y with
     |some d=>match Fe P e d (.p id (b+j.toNat*a)) x with
      |some f=>some (.dU [],f)
      |none=>none
     |none=>none
    |_,_=>none
   |none=>none
  else none
 |_=>none
def ahe{t:TypeId}{b:Bool}{a:Addr}{y:Value}(h:(Instr.loadAt t (.pointer (some a))).run P w=.ok y w):(loadVar t a).run P w=.ok y w:=by simpa[Instr.loadAt,Instr.sureAddr]using h
def ajN{t:TypeId}{a:Addr}{y:Value}{w':World}(h:(Instr.storeAt t (.pointer (some a)) y).run P w=.ok () w'):(storeVar t a y).run P w=.ok () w':=by simpa[Instr.storeAt,Instr.sureAddr]using h
def JB{f:FuncId}{b:Bool}(h:Ext P f (Extern.ReflectliteSwapper.swap b)):dK P f (Eo P):=by
 intro args J r J' k F w vs s L;unfold Eo at k;split at k
 ·next i j id a n V g e=>
  split at k
  ·next W=>
   obtain⟨X,Y,Z,aa,ab⟩:=W;split at k
   ·next d t=>
    split at k
    ·next x y hx hy=>
     split at k
     ·next J1 v=>
      split at k
      ·next J2 z=>
       cases k;simp only[aG]at L;obtain⟨v1,_,rfl,M,v2,_,rfl,N,v3,_,rfl,O,v4,_,rfl,h4,rfl⟩:=L;have e4:=agr e s X h4;subst e4;simp only[VR]at M N O;subst M;subst N;obtain⟨q,R,ac,rfl⟩:=O;have S:VR F (.p id (a+i.toNat*d)) (.pointer (some ⟨q.bl,q.ba+(a+i.toNat*d),none⟩)):=by simp only[VR];exact⟨q,R,rfl⟩
       have T:VR F (.p id (a+j.toNat*d)) (.pointer (some ⟨q.bl,q.ba+(a+j.toNat*d),none⟩)):=by simp only[VR];exact⟨q,R,rfl⟩
       obtain⟨u,hu,A⟩:=Gh s hx S;obtain⟨u',B,D⟩:=Gh s hy T;obtain⟨w1,l,m⟩:=Wv s v S D;have E:VR F (.p id (a+j.toNat*d)) (.pointer (some ⟨q.bl,q.ba+(a+j.toNat*d),none⟩)):=T;obtain⟨U,o,G⟩:=Wv m.rel z E A;refine h.xZ ⟨.tuple #[],U,?_,F,m.trans G,by simp only[VR];exact⟨[],rfl,by simp[aG]⟩⟩;have p:(Extern.ReflectliteSwapper.exchange e ⟨q.bl,q.ba+a,none⟩ i.toNat j.toNat).run P w=.ok (.tuple #[]) U:=by unfold Extern.ReflectliteSwapper.exchange;have a1:=ahe (b:=true) hu;have a2:=ahe (b:=true) B;have a3:=ajN l;have a4:=ajN o;simp only[aU,jk t,aT,qL,jY,a1,a2,a3,a4,bH]
       have t1:¬(i<0\/i>=n):=ah;have t2:¬(j<0\/j>=n):=ah;show(Extern.ReflectliteSwapper.swap b #[.int .i64 i,.int .i64 j,.slice (some ⟨q.bl,q.ba+a,none⟩) n _,typeHandle P e]).run P w=_
       cases b
       ·have H:∀c,Extern.ReflectliteSwapper.swap false #[.int .i64 i,.int .i64 j,.slice (some ⟨q.bl,q.ba+a,none⟩) n c,typeHandle P e]=(do
         if i<0 ||i>=n ||j<0 ||j>=n then Extern.ReflectliteSwapper.outOfRange
         Extern.ReflectliteSwapper.exchange (<-Extern.Rtype.ofHandle (typeHandle P e)) ⟨q.bl,q.ba+a,none⟩ i.toNat j.toNat):=λ_=>rfl
        rw[H];have I:(decide (i<0) ||decide (i>=n) ||decide (j<0) ||decide (j>=n))=false:=by simp;omega
        simp only[I,ig,if_false,aU,aas,aT,p]
       ·have H:∀c,Extern.ReflectliteSwapper.swap true #[.int .i64 i,.int .i64 j,.slice (some ⟨q.bl,q.ba+a,none⟩) n c,typeHandle P e]=(do
         if i<0 ||i>=n then boundsPanic .i64 i n .index
         if j<0 ||j>=n then boundsPanic .i64 j n .index
         Extern.ReflectliteSwapper.exchange (<-Extern.Rtype.ofHandle (typeHandle P e)) ⟨q.bl,q.ba+a,none⟩ i.toNat j.toNat):=λ_=>rfl
        rw[H];have I:(decide (i<0) ||decide (i>=n))=false:=by simp;omega
        have t4:(decide (j<0) ||decide (j>=n))=false:=by simp;omega
        simp only[I,t4,ig,if_false,aU,aas,aT,p]
      ·cases k
     ·cases k
    ·cases k
   ·cases k
  ·cases k
 ·cases k
end
noncomputable section
variable[aJ]
variable{P:Program}
open Go.Extern.BytealgMakeNoZero
def ae7:∀(n t:Nat)(a:QQ),(digits n t a).size=a.size+n
 |0,_,_=>rfl
 |n+1,t,a=>by rw[digits,ae7];simp;omega
def ae6:∀(n t:Nat)(a:QQ)(k:Nat),k<a.size->(digits n t a)[k]? =a[k]?
 |0,_,_,_,_=>rfl
 |n+1,t,a,k,h=>by rw[digits,ae6 n _ _ k (by simp;omega),He,aj ah]
def ae5:∀(n t:Nat)(a:QQ)(k:Nat),a.size<=k->k<a.size+n->∃m:Int,0<=m/\m<=255/\(digits n t a)[k]? =some (.int .u8 m)
 |0,_,_,_,h1,b=>ah
 |n+1,t,a,k,h1,b=>by
  rw[digits];by_cases e:k=a.size
  ·subst e;refine⟨Int.ofNat (t%256),Kt _,by have:=Nat.mod_lt t (show 256>0 by decide);simp;omega,?_⟩;rw[ae6 n _ _ _ aA,He,au rfl]
  ·exact ae5 n _ _ k (by simp;omega) (by simp;omega)
def aaH(e:TypeId):dM:=λl J=>match l with
 |[.i .i64 n]=>if 0<=n/\n<=1048576 then some (.sl J.next 0 n.toNat none,J.new (.cells (List.replicate n.toNat (.z .u8 0 255)) e true true))else none
 |_=>none
def avL{f:FuncId}{D rs:Wr}{t e:TypeId}(h:Ext P f (makeNoZero D rs))(E:rs[0]? =some t)(G:P.underlying t=some (.slice e))(H:e≠0)(s:sizeT P e=some 1):dK P f (aaH e):=by
 intro args J r J' i F w O u B;unfold aaH at i;split at i
 ·next n=>
  split at i
  ·next R=>
   cases i;simp only[aG,VR]at B;obtain⟨x,_,rfl,rfl,rfl⟩:=B;have d:=grownCap_ge w n.toNat 0 e;generalize l:grownCap w n.toNat 0 e=c at d;let w1:World:=w.drew
   obtain⟨bytes,v⟩:∃b,(choose (.extern "internal/bytealg.MakeNoZero.bytes" 0)).run P w1=.ok b w1.drew:=by simp only[choose,Sem.run,Question.forced,ig,if_false];exact⟨_,rfl⟩
   have y:(choose (.appendCap n.toNat 0 e)).run P w=.ok c w1:=by simp only[choose,Sem.run,Question.forced,ig,if_false];rw[<-l];rfl
   have g:∀w:World,(askRoom c).run P w=.ok () w:=λw=>by unfold askRoom;split<;>simp[mark,Sem.run]
   let j:=digits c bytes #[]
   have o:j.size=c:=by simp[j,ae7]
   have z:St P F J w1.drew (F.put J.next ⟨w.heap.size,0,c,1⟩) (J.new (.cells (List.replicate n.toNat (.z .u8 0 255)) e true true)) {w1.drew with heap:=w.heap.push (.cells j e)}:=by
    refine St.alloc (w:=w1.drew) u.drew.drew _ _ _ rfl ?_;refine⟨j,e,(0,0),by show(w.heap.push _)[w.heap.size]? =_;simp,?_⟩;refine {fits:=by simp[o],le:=by simpa using d,shut:=aA,cell:=?_,free:=λ_ k p=>?_,whole:=λ_=>⟨rfl,by simp[o],λ_=>rfl⟩,room:=λ_=>⟨H,Nat.one_pos,s⟩}
    ·intro k a p;rw[List.getElem?_replicate]at p;split at p
     ·next I=>
      cases p;obtain⟨m,L,M,N⟩:=ae5 c bytes #[] k aA (by simp;omega);exact⟨_,by simpa[j]using N,m,L,M,rfl⟩
     ·cases p
    ·simp
   refine h.xZ ⟨.slice (some ⟨w.heap.size,0,none⟩) n.toNat c,{w1.drew with heap:=w.heap.push (.cells j e)},?_,_,((St.drew u).trans (St.drew u.drew)).trans z,?_⟩
   ·have A:¬((n<0 ||n>2^48)=true):=by simp;omega
    conv=>lhs;arg 2;whnf
    simp only[E,aU,aZ G,aT,aj A,bH,y,g,v,newRow,newObj];rfl
   ·have:=Jt (q:=⟨w.heap.size,0,c,1⟩) (F:=F) (id:=J.next) (len:=n.toNat) (cap:=none) rfl (by simp only[um,Nat.div_one];exact d);simpa using this
  ·cases i
 ·cases i
end
noncomputable section
variable[aJ]
open Go.ChangeShapes Go.WideShapes
variable{P:Program}
def adQ{a b:Bool}(c:a=true)(d:b=true):(a&&b)=true:=by rw[c,d];rfl
structure Kept(W W':World):Prop where
 os:W'.os=W.os
 tape:W'.tape=W.tape
 output:W'.output=W.output
 size:W.heap.size<=W'.heap.size
 keep:∀bl,bl<W.heap.size->W'.heap[bl]? =W.heap[bl]?
def Kept.but{W a:World}(h:Kept W a)(m:MemPlace->Prop):W.keptBut a m:=by
 refine⟨h.os,h.output,λi hi=>?_⟩;rw[h.keep i hi];cases b:W.heap[i]? with
 |none=>trivial
 |some o=>cases o<;>first|exact⟨rfl,rfl,rfl,λ_ _=>rfl⟩|exact .inr ⟨rfl,rfl⟩|rfl
def Kept.frozen{W b:World}(h:Kept W b)(a:Addr)(c:a.block<W.heap.size):b.frozen? a=W.frozen? a:=by unfold World.frozen?;rw[h.keep _ c]
def St.kept{F F':Env}{J J':aC}{w w':World}(h:St P F J w F' J' w')(a:∀id o,J.get id=some o->o.own=false):Kept w w':=
 ⟨h.os,h.tape,h.output,h.size,λc d=>h.keep c d λid o q e b _ _=>by rw[a id o e]at b;cases b⟩
def lC.calls{f:FuncId}{fn:Func}{c:Code}{args:QQ}{w:World}{R:Value->World->Prop}(g:wI P)(b:P.funcs[f]? =some fn)(d:fn.body=some c)
 (h:lC P f args w R):Calls P f args w λe w'=>∃v,e=.returned v/\R v w':=by
 rcases h with⟨v,w',h,_⟩|⟨_,h⟩
 ·have a:=g f fn c b d;simp only[callFunc,aU,program,Sem.run,aT,b]at h;simp only[a,ig,if_false,d,KH,bH]at h;cases h
 ·exact h
def Calls.mono'{f:FuncId}{args:QQ}{w:World}{R a:Ending->World->Prop}(h:Calls P f args w R)(b:∀e w',R e w'->a e w'):Calls P f args w a:=by intro c;obtain⟨e,w',d,g,i⟩:=h c;exact⟨e,w',d,b e w' g,i⟩
def atj{f:FuncId}{fn:Func}{c:Code}{args:Q3}{vs:Q6}{w:World}{F:Env}{J J':aC}{r:AV}{call:Caller}(a:qV P call)(h:wI P)(i:P.funcs[f]? =some fn)(j:fn.body=some c)
 (b:call f args J=some (r,J')) (k:SR P F J w) (l:aG F args vs) (d:∀id o,J.get id=some o->o.own=false):
 Calls P f ⟨vs⟩ w λe w'=>∃v,e=.returned v/\(∃F',VR F' r v)/\Kept w w':=
 Calls.mono' (lC.calls h i j (a f args J r J' b F w vs k l)) λ_ _ ⟨v,m,F',g,n⟩=>⟨v,m,⟨F',n⟩,g.kept d⟩
def vM(n:Nat)(J:aC)(ro:Nat->Option Obj:=λ_=>none):Env:=⟨λid=>if id<=n then some ⟨id,0,(match J.get id with|some (.cells c _ _ _)=>c.length|_=>0),0⟩else none,ro,λ_=>false⟩
structure TabAt(w:World)(g:Nat)(c:Q3):Prop where
 at':∃cs elem fr,w.heap[g]? =some (.cells cs elem fr)/\c.length<=cs.size/\XL c cs
def KJ{J:aC}{w:World}(H:P.globals.size<J.next)(f:∀id o,J.get id=some o->id<=P.globals.size/\∃c,o=.cells c 0 false false/\TabAt w id c){ro:Qf}(i:∀b o,ro b=some o->w.heap[b]? =some o)(d:∀p∈aJ.tabs,E8 (vM P.globals.size J ro) p.1 p.2):SR P (vM P.globals.size J ro) J w:=by
 refine⟨λg j=>?_,λid q l=>?_,λid o s=>?_,λ_ j=>(by cases j),λid o t I q L m n M u=>?_,i,λid o q m n _=>?_,d⟩;rotate_right
 ·obtain⟨_,c,rfl,_⟩:=f id o m;cases n
 ·exact⟨_,_,by simp only[vM];rw[au j]⟩
 ·simp only[vM]at l;split at l
  ·omega
  ·cases l
 ·obtain⟨r,c,rfl,⟨v,e,y,z,A,B⟩⟩:=f id o s;refine .inl ⟨⟨id,0,c.length,0⟩,?_,v,e,y,z,?_⟩
  ·simp only[vM];rw[au r,s]
  ·refine⟨by simpa using A,cO _,λ_=>rfl,λk a D=>?_,(λh=>by cases h),λh=>absurd rfl h,(λh=>by cases h)⟩;obtain⟨x,E,G⟩:=B.1 k a D;exact⟨x,by simpa using E,G.vr⟩
 ·obtain⟨_,c,rfl,_⟩:=f id o m;cases n
def acg{w:World}{b:String}{k:IntKind}{d:List Int}{g:Nat}(h:Lib.TabIs P w b k d)(j:P.globalNamed b=some g)(c:d.isEmpty=false:=by rfl):TabAt w g (d.map λz=>.i k z):=by
 unfold Lib.TabIs World.var? at h;rw[j]at h;simp only[zN]at h;split at h
 ·next m e n l=>
  cases h;refine⟨_,_,_,l,aA,λi a f=>?_,λ_=>aA,λh=>by simp at h;rw[h]at c;cases c⟩;simp only[jf,bn]at f;obtain⟨z,c,rfl⟩:=f;exact⟨.int k z,by simp[c],.inl rfl⟩
 ·cases h
def aaL(k:IntKind)(n:Nat)(f:Nat->Int):DataW Unit:=.agg ((List.range n).map λi=>.agg ([f (2*i),f (2*i+1)].map λz=>.lit (.int k z)))
def aBb{w:World}{c:String}{k:IntKind}{n:Nat}{f:Nat->Int}{g:Nat}{t e:TypeId}{fs:Array Field}(h:Lib.VarReads P w c (aaL k n f))(N:P.globalNamed c=some g)
 (B:(P.globals[g]?).map (·.type)=some t) (O:P.underlying t=some (.array n e)) (U:P.underlying e=some (.struct fs))
 (V:∀(m:Nat)(z:Field),fs[m]? =some z->P.underlying z.type=some (.int k)/\z.offset=m/\P.cellsOf z.type=1) (D:fs.size=2)
 (r:P.cellsOf e=2) (E:P.cellsOf t=2*n) (Z:n≠0:=by decide):TabAt w g ((List.range (2*n)).map λj=>.i k (f j)):=by
 obtain⟨g',t',R,i,p,G,H,b,s⟩:=h;obtain rfl:=Hu (N.symm.trans G);obtain rfl:=Hu (B.symm.trans H);have l:R.toList.length=2*n:=by
  cases i with
  |zero=>simp[DataW.trod]at s
  |succ i=>
   simp only[DataW.trod,O]at s;split at s
   ·next W=>rw[<-E];exact W
   ·cases s
 have o:∀j,j<2*n->R[j]? =some (.int k (f j)):=by
  intro j hj;obtain⟨I,d,q,u,v⟩:=Lib.array_elem O s (j/2) ah;simp only[jf,ada (ah:j/2<n),gU,aY]at u;subst u;rw[r]at v;have x:=Lib.ints_of_struct U V (by rw[r,D]) v;have L:=uH (·[0]?) x;have M:=uH (·[1]?) x;simp[rW]at L M;by_cases A:j%2=0
  ·have:j/2*2=j:=ah;rw[this]at L;rw[L];congr 3;omega
  ·have:j/2*2+1=j:=ah;rw[this]at M;rw[M];congr 3;omega
 unfold World.var? at b;rw[N]at b;simp only[zN]at b;split at b
 ·next X S fr Y=>
  cases b;refine⟨_,_,_,Y,by simp at l⊢;omega,λj a T=>?_,λ_=>by simp at l⊢;omega,λh=>by simp at h;omega⟩;simp only[jf,bn]at T;obtain⟨m,A,rfl⟩:=T;have y:j<2*n:=by have:=(fH.1 A).1;simpa using this
  rw[ada y]at A;cases A;exact⟨_,o j y,.inl rfl⟩
 ·cases b
def awN{H:Type}{enc:TypeId×Value->H}{f:Func}{s:ChangeSpec}{apart l c again:Bool}{W o:World}{args:QQ}{v:Value}{q gs:List (DataW H)}{a pa pv:List MemPlace}
 (x:DataW.Whole enc P f.params.toList s.vars apart W args.toList q gs a)
 (i:∀(b:Nat)(m:Nat->Bool)(B:Bool),DataW.TrodAll enc P o b m B f.resultTypes.toList (v.resultList f.resultTypes.size) (s.fn H (q++gs)).results [])
 (d:∀m:Nat->Bool,(∀p∈a,m p.block=true)->DataW.TrodAll enc P o 0 m true f.params.toList args.toList (s.fn H (q++gs)).args pa)
 (e:∀m:Nat->Bool,(∀p∈a,m p.block=true)->DataW.TrodVars enc P o m s.vars (s.fn H (q++gs)).vars pv)
 (h:a=pa++pv) (A:Kept W o)
 (y:∀(j:Nat)(t:TypeId)(r:Value),f.resultTypes[j]? =some t->(v.resultList f.resultTypes.size)[j]? =some r->Value.okWide P o .any 0 t r):
 s.post enc P f apart l c again W args v o:=by
 have k:∀p∈a,(λb=>decide (b<W.heap.size)) p.block=true:=λp g=>by simpa using x.lt p g
 have z:=λp g=>x.lt p g;refine⟨q,gs,a,[],pa,pv,x,i _ _ _,d _ k,e _ k,World.keptBut_mono (λp g=>⟨g,?_⟩) (A.but (·∈a)),λ_=>?_⟩
 ·rw[h,ny]at g;exact Or.inr g
 ·obtain⟨_,_,_,_,_,D,E⟩:=x;refine⟨y,_,_,([]++pa)++pv,⟨[]++pa,pv,trodAll_append (d _ (λ_ _=>rfl)) (i _ _ _),e _ (λ_ _=>rfl),rfl,?_,?_⟩,?_⟩
  ·intro b n g;have u:MemPlace.cell b n∈a:=by rw[h];simpa using g
   have G:=z _ u;rw[A.frozen ⟨b,n,none⟩ G];exact D b n u
  ·intro I;have:=E I;rw[h]at this;simpa using this
  ·intro p g _;rw[h];simpa using g
end
noncomputable section
variable[aJ]
variable{P:Program}
def lC.mono{f:FuncId}{args:QQ}{w:World}{R c:Value->World->Prop}(h:lC P f args w R)(d:∀v w',R v w'->c v w'):lC P f args w c:=by
 rcases h with⟨v,w',a,b⟩|⟨a,b⟩
 ·exact .inl ⟨v,w',a,d v w' b⟩
 ·refine .inr ⟨a,Calls.mono' b ?_⟩;rintro e w' ⟨v,g,i⟩
  exact⟨v,g,d v w' i⟩
def St.aau{F:Env}{J:aC}{w w':World}(h:SR P F J w)(a:Kept w w'):St P F J w F J w':=by refine⟨Env.le.refl _,⟨h.mJ,h.dom,λid o d=>?_,h.jU,h.sep,λb o c=>(a.keep b (vN (h.jc b o c))).trans (h.jc b o c),h.lq,h.tabs⟩,a.size,λe c _=>a.keep e c,λid o q f g i j=>.inr ⟨id,o,q,f,g,i,j,rfl⟩,a.os,a.tape,a.output,rfl,cO _,λ_ h=>.inl h,λ_ h=>.inl h⟩;exact(h.live id o d).heap λq _ k=>a.keep _ k.lt
def E8.at{F:Env}{J:aC}{w:World}(h:SR P F J w){g:Nat}{c:Q3}(b:E8 F g c):TabAt w g c:=by obtain⟨d,a,e,f,i,j⟩:=b;exact⟨d,a,e,h.jc _ _ f,i,j⟩
def zO(J0:aC)(n:Nat):Prop:=n<J0.next/\∀id o,J0.get id=some o->∃c,o=.cells c 0 false false/\(id,c)∈aJ.tabs/\id<=n
def SR.WR{F:Env}{J J0:aC}{w:World}(h:SR P F J w)(h0:zO J0 P.globals.size):SR P (vM P.globals.size J0 F.ro) J0 w:=
 KJ h0.1 (λid o d=>by obtain⟨c,rfl,e,b⟩:=h0.2 id o d;exact⟨b,c,rfl,(h.tabs _ e).at h⟩) h.jc (λp f=>by obtain⟨g,a,i,j,k⟩:=h.tabs p f;exact⟨g,a,i,j,k⟩)
def zO.own{J0:aC}{n:Nat}(h:zO J0 n):∀id o,J0.get id=some o->o.own=false:=by intro id o a;obtain⟨c,rfl,_⟩:=h.2 id o a;rfl
def JA:dM:=λargs J=>match args with
 |[]=>some (.b true,J)
 |_=>none
def avF{call:Caller}{f:FuncId}{J0 J':aC}(a:qV P call)(h0:zO J0 P.globals.size)(b:call f [] J0=some (.b true,J')):dK P f JA:=by
 intro args J r i c F w j e g;unfold JA at c;split at c
 ·cases c;simp only[aG]at g;subst g;refine lC.mono (a f [] J0 _ _ b _ w [] (e.WR h0) rfl) ?_;rintro v k ⟨l,d,h⟩
  refine⟨F,St.aau e (d.kept h0.own),?_⟩;simp only[VR]at h⊢;exact h
 ·cases c
def VR.ground{F F':Env}{a:AV}{v:Value}(d:a.under 0=true)(h:VR F a v)(c:∀b o,F.ro b=some o->F'.ro b=some o):VR F' a v:=
 VR.mono (F:=F.cut 0) ⟨λid q e=>by simp[Env.cut]at e,c,λid f=>by simp[Env.cut]at f⟩ a v (VR.cut a v d h)
def aG.ground{F F':Env}{l:Q3}{vs:Q6}(c:AV.pW 0 l=true)(h:aG F l vs)(a:∀b o,F.ro b=some o->F'.ro b=some o):aG F' l vs:=
 aG.mono (F:=F.cut 0) ⟨λid q d=>by simp[Env.cut]at d,a,λid e=>by simp[Env.cut]at e⟩ l vs (aG.cut l vs c h)
def grp(agg:Bool)(size:Nat):Nat->List AV->List AV
 |0,_=>[]
 |n+1,cs=>(if agg then .agg (cs.take size)else cs.headD .jH)::grp agg size n (cs.drop size)
def IG(agg:Bool)(size:Nat):Nat->List Value->List Value
 |0,_=>[]
 |n+1,cs=>(if agg then .agg ⟨cs.take size⟩else cs.headD undef)::IG agg size n (cs.drop size)
def Za(agg:Bool)(size:Nat):∀(n:Nat)(l:Q3),(grp agg size n l).length=n
 |0,_=>rfl
 |n+1,l=>by simp[grp,Za agg size n]
def agh{F:Env}{agg:Bool}{size:Nat}(h1:agg=false->size=1):∀(n:Nat)(l:Q3)(xs:Q6),aG F l xs->l.length=n*size->l.all AV.nT=true->
 aG F (grp agg size n l) (IG agg size n xs)/\(∀x∈IG agg size n xs,x.cells.size=size)/\dN (IG agg size n xs)=xs
 |0,l,xs,c,g,_=>by
  have:xs=[]:=by apply jR;rw[<-c.length,g];exact Nat.zero_mul _
  subst this;simp[grp,IG,aG,dN]
 |n+1,l,xs,c,g,b=>by
  have e:=c.length;rw[rC,Hr]at g;have d:=agh h1 n (l.drop size) (xs.drop size) (c.drop size) (by simp;omega) (by rw[List.all_eq_true]at b⊢;exact λa h=>b a (NZ h))
  cases agg with
  |true=>
   simp only[grp,IG,if_true];refine⟨aG.cons (by simp only[VR];exact⟨_,rfl,c.take size⟩) d.1,?_,?_⟩
   ·intro x i;rcases bJ.1 i with rfl|i
    ·have:=e;simp[Value.cells];try omega
    ·exact d.2.1 x i
   ·have:=d.2.2;simp only[dN,jS]at this⊢;rw[this];simp[Value.cells]
  |false=>
   have o:=h1 rfl;subst o;cases l with
   |nil=>simp at g
   |cons a l=>
    simp only[aG]at c;obtain⟨x,p,rfl,m,q⟩:=c;have h:=List.all_eq_true.1 b a aA;have j:=aax m h;have f:x.cells =#[x]:=by cases x<;>simp[qE]at j<;>rfl
    simp only[grp,IG,ig,if_false,List.headD_cons];simp only[Xw,dD]at d⊢;refine⟨aG.cons m d.1,?_,?_⟩
    ·intro y k;rcases bJ.1 k with rfl|k
     ·rw[f];rfl
     ·exact d.2.1 y k
    ·have:=d.2.2;simp only[dN,jS]at this⊢;rw[this,f];rfl
def sJ(P:Program)(J:aC):Nat->AV->Option AV
 |0,_=>none
 |n+1,a=>
  match a with
  |.sl id off len _=>
   if len=0 then some (.ro [])else
   match J.get id with
   |some (.cells c et true _)=>
    match sizeT P et,nU P et with
    |some size,some agg=>
     if(agg=true/\0<size)\/size=1 then
      match takeN c off (len*size)with
      |some cs=>match uS (sJ P J n) cs with
       |some b=>if b.all AV.nT then some (.ro (grp agg size len b))else none
       |none=>none
      |none=>none
     else none
    |_,_=>none
   |_=>none
  |.gy=>some (.ro [])
  |.agg l=>(uS (sJ P J n) l).map .agg
  |.dU l=>(uS (sJ P J n) l).map .dU
  |.jh t x=>(sJ P J n x).map (.jh t)
  |a=>if a.under 0 then some a else none
def avu{F F':Env}{f:AV->Option AV}(i:∀a r v,f a=some r->VR F a v->VR F' r v){l r:Q3}{vs:Q6}(h:uS f l=some r)(d:aG F l vs):aG F' r vs:=by
 obtain⟨j,m⟩:=MH h;refine aG.of (by rw[<-j];exact d.length) λk a e=>?_;have b:k<l.length:=by have:=(fH.1 e).1;omega
 obtain⟨y,g,c⟩:=m k _ (bT b);rw[e]at g;cases g;obtain⟨x,n,o⟩:=d.at (bT b);exact⟨x,n,i _ _ _ c o⟩
def aqZ{F F':Env}{J:aC}{w:World}{N:Nat}(h:SR P F J w)(s:∀id o q,J.get id=some o->o.own=true->F id=some q->N<=q.bl)
 (I:∀b o,F.ro b=some o->F'.ro b=some o) (t:∀b o,N<=b->w.heap[b]? =some o->F'.ro b=some o):∀(n:Nat)(a r:AV)(v:Value),sJ P J n a=some r->VR F a v->VR F' r v:=by
 intro n;induction n with
 |zero=>intro a r v d;simp[sJ]at d
 |succ n U=>
  intro a r v d f;have j:∀(l r:Q3)(m:Q6),uS (sJ P J n) l=some r->aG F l m->aG F' r m:=λl r m h1 h2=>avu U h1 h2;unfold sJ at d;split at d
  ·next id L len aa=>
   simp only[VR]at f;obtain⟨q,V,M,rfl⟩:=f;split at d
   ·next W=>cases d;subst W;exact Qy
   ·next W=>
    split at d
    ·next c et ab X=>
     split at d
     ·next g O hs ha=>
      split at d
      ·next R=>
       split at d
       ·next cs p=>
        split at d
        ·next ds u=>
         split at d
         ·next z=>
          cases d;obtain⟨q',A,ws,B,fr,hb,Y⟩:=h.obj _ _ X rfl;rw[V]at A;cases A;have i:=j _ _ _ u (Y.zA p);have D:=(rQ p).2.1;have E:=(MH u).1;have G:O=false->g=1:=λe=>R.elim (λh=>absurd (h.1.symm.trans e) aA) (λh=>h);obtain⟨g1,g2,g3⟩:=agh G len ds _ i (by rw[<-E,D]) z;have Z:=Y.take p;have S:=i.length;simp only[VR];right;refine⟨q.bl,q.ba+L,_,_,g,by rw[Za],by rw[Za];exact M,g1,g2,λ_=>⟨ws,B,fr,t _ _ (s id _ q X rfl V) hb,?_,?_⟩⟩
          ·rw[g3];rw[<-S,<-E,D];have:0<len*g:=Oa ah ah;omega
          ·rw[g3];intro k x H;rw[lT]at H;split at H
           ·rw[rW,wC]at H;exact H
           ·cases H
         ·cases d
        ·cases d
       ·cases d
      ·cases d
     ·cases d
    ·cases d
  ·cases d;simp only[VR]at f⊢;exact .inl ⟨trivial,_,f⟩
  ·simp only[bn]at d;obtain⟨l',T,rfl⟩:=d;simp only[VR]at f⊢;obtain⟨m,rfl,f⟩:=f;exact⟨m,rfl,j _ _ _ T f⟩
  ·simp only[bn]at d;obtain⟨l',T,rfl⟩:=d;simp only[VR]at f⊢;obtain⟨m,rfl,f⟩:=f;exact⟨m,rfl,j _ _ _ T f⟩
  ·simp only[bn]at d;obtain⟨x',hx,rfl⟩:=d;simp only[VR]at f⊢;obtain⟨y,rfl,f⟩:=f;exact⟨y,rfl,U _ _ _ hx f⟩
  ·split at d
   ·next hu=>cases d;exact VR.ground hu f I
   ·cases d
structure Base where
 w:World
 hole:Nat->Prop
 anch:Nat->Option Place
structure Rf(b:Base)(W':World):Prop where
 os:W'.os=b.w.os
 tape:W'.tape=b.w.tape
 output:W'.output=b.w.output
 size:b.w.heap.size<=W'.heap.size
 keep:∀bl,bl<b.w.heap.size->¬b.hole bl->W'.heap[bl]? =b.w.heap[bl]?
def Base.shut(w:World):Base:=⟨w,λ_=>False,λ_=>none⟩
structure jX(P:Program)(w0:Base)(dQ:Qf)(F:Env)(J:aC)(w:World):Prop where
 rel:SR P F J w
 kept:Rf w0 w
 own:∀id o q,J.get id=some o->o.own=true->F id=some q->w0.w.heap.size<=q.bl\/w0.hole q.bl
 uU:∀b o,dQ b=some o->F.ro b=some o
 qH:∀b,F.ro b≠none->dQ b≠none\/w0.w.heap.size<=b\/w0.hole b
 rE:∀i q,w0.anch i=some q->F i=some q/\P.globals.size<i/\i<=P.globals.size+gQ.ka
def Kept.refl(w:World):Kept w w:=⟨rfl,rfl,rfl,cO _,λ_ _=>rfl⟩
def jX.start{F:Env}{J:aC}{w:World}(h:SR P F J w)(a:∀id o,J.get id=some o->o.own=false):jX P (.shut w) F.ro F J w:=
 ⟨h,⟨rfl,rfl,rfl,cO _,λ_ _ _=>rfl⟩,λid o q c b=>(by rw[a id o c]at b;cases b),λ_ _ h=>h,λ_ h=>.inl h,λ_ _ h=>by cases h⟩
def Rf.shut{w w':World}(h:Rf (.shut w) w'):Kept w w':=⟨h.os,h.tape,h.output,h.size,λa b=>h.keep a b (λe=>e)⟩
def jX.avA{w:World}{d:Qf}{F:Env}{J:aC}{w':World}(h:jX P (.shut w) d F J w'):∀id o q,J.get id=some o->o.own=true->F id=some q->w.heap.size<=q.bl:=by
 intro id o q a b c;rcases h.own id o q a b c with h1|h1
 ·exact h1
 ·cases h1
def jX.ai5{w:World}{a:Qf}{F:Env}{J:aC}{w':World}(h:jX P (.shut w) a F J w'):∀b,F.ro b≠none->a b≠none\/w.heap.size<=b:=by
 intro b c;rcases h.qH b c with h1|h1|h1
 ·exact .inl h1
 ·exact .inr h1
 ·cases h1
def jX.step{w0:Base}{l:Qf}{F F':Env}{J J':aC}{w w':World}(h:jX P w0 l F J w)(p:J.lock=0)(k:St P F J w F' J' w'):jX P w0 l F' J' w':=by
 refine⟨k.rel,⟨k.os.trans h.kept.os,k.tape.trans h.kept.tape,k.output.trans h.kept.output,kR h.kept.size k.size,λm c n=>?_⟩,λid o q h1 r s=>?_,λb o c=>k.ext.ro b o (h.uU b o c),λb c=>?_,λi q hi=>⟨k.ext.pl _ _ (h.rE i q hi).1,(h.rE i q hi).2⟩⟩
 ·rw[k.keep m (xR c h.kept.size) (λid o q f t _ u=>by
   rcases h.own id o q f t u with h1|h1
   ·omega
   ·intro e;rw[e]at h1;exact n h1)]
  exact h.kept.keep m c n
 ·rcases k.own id o q h1 r (by rw[p];exact rZ _) s with v|⟨g,o0,j,a,b,_,d,e⟩
  ·exact .inl (kR h.kept.size v)
  ·rw[<-e];exact h.own g o0 j a b d
 ·rcases k.qH b c with h1|h1|⟨g,o0,j,f,x,z,d1,y⟩
  ·exact h.qH b h1
  ·exact .inr (.inl (kR h.kept.size h1))
  ·right;rw[<-y];exact h.own g o0 j f x d1
def Fn(P:Program)(f:FuncId)(args:Q3)(R:AV->Prop):Prop:=∀F J w a,SR P F J w->aG F args a->lC P f ⟨a⟩ w λv c=>∃b r,R r/\St P F J w b J c/\VR b r v
def jX.freeze{F F1:Env}{J s:aC}{w w1:World}(d:SR P F J w)(h:jX P (.shut w) F.ro F1 s w1){n:Nat}{r i:AV}{v:Value}(z:sJ P s n r=some i)(A:VR F1 r v):
 ∃F',St P F J w F' J w1/\VR F' i v:=by
 let e:Nat->Option Obj:=λb=>if b<w.heap.size then F.ro b else w1.heap[b]?
 have j:∀b o,F.ro b=some o->b<w.heap.size:=λb o a=>vN (d.jc b o a);have f:(F:Env).le ⟨F.pl,e,F.gh⟩:=⟨λ_ _ h=>h,λb o a=>by show(if _ then _ else _)=_;rw[au (j b o a)];exact a,λ_ h=>h⟩
 have k:∀b o,F1.ro b=some o->e b=some o:=by
  intro b o a;show(if _ then _ else _)=_
  split
  ·next B=>
   rcases h.ai5 b (by rw[a];simp)with h1|h1
   ·cases t:F.ro b with
    |none=>exact absurd t h1
    |some D=>have:=h.uU b D t;rw[a]at this;exact this.symm
   ·omega
  ·exact h.rel.jc b o a
 refine⟨⟨F.pl,e,F.gh⟩,?_,aqZ (N:=w.heap.size) h.rel h.avA k (λb o a l=>by show(if _ then _ else _)=_;rw[aj ah];exact l) n r i v z A⟩;have g:=h.kept.shut;refine⟨f,⟨d.mJ,d.dom,λid o l=>?_,d.jU,d.sep,λb o a=>?_,λid o q u E x=>?_,λp G=>(d.tabs p G).mono f⟩,g.size,λH a _=>g.keep H a,λid o q h1 I L M=>.inr ⟨id,o,q,h1,I,L,M,rfl⟩,g.os,g.tape,g.output,rfl,cO _,λ_ h=>.inl h,λb a=>?_⟩
 ·exact((d.live id o l).heap λq _ m=>g.keep _ m.lt).mono f
 ·have c:(if b<w.heap.size then F.ro b else w1.heap[b]?)=some o:=a;split at c
  ·next y=>rw[g.keep b y];exact d.jc b o c
  ·exact c
 ·have m:=d.at u (show F id=some q from x);show(if q.bl<w.heap.size then F.ro q.bl else w1.heap[q.bl]?)=none
  rw[au m.lt];exact d.lq id o q u E x
 ·have c:(if b<w.heap.size then F.ro b else w1.heap[b]?)≠none:=a;split at c
  ·exact .inl c
  ·next y=>right;left;omega
def Fn.aat{call:Caller}{f:FuncId}{J0 J':aC}{args:Q3}{r d:AV}(a:qV P call)(h0:zO J0 P.globals.size)(i:J0.lock=0)(j:AV.pW 0 args=true)(b:call f args J0=some (r,J'))(n:Nat)(k:sJ P J' n r=some d):Fn P f args (· =d):=by
 intro F J w l g m;have c:=g.WR h0;refine lC.mono (a f args J0 _ _ b _ w l c (aG.ground j m (λ_ _ h=>h))) ?_;rintro v u ⟨x,e,o⟩
 have p:=(jX.start c h0.own).step i e;obtain⟨q,s,t⟩:=p.freeze (F:=F) g k o;exact⟨q,d,rfl,s,t⟩
def dK.avm{f:FuncId}{g:Q3->Option AV}(h:∀args r,g args=some r->Fn P f args (· =r)):dK P f λargs J=>(g args).map (·,J):=by
 intro args J r J' a F w b c d;simp only[bn,oD]at a;obtain⟨r0,e,rfl,rfl⟩:=a;refine lC.mono (h args r0 e F J w b c d) ?_;rintro v l ⟨i,r,rfl,j,k⟩
 exact⟨i,j,k⟩
