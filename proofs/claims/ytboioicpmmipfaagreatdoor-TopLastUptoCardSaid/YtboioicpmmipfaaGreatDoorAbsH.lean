/- Functions without a Go body: what the model does at them, for the evaluator. -/
import Derived.Test.YtboioicpmmipfaaGreatDoorAbsG
import Derived.Laws.Externs
import Derived.Lib.LaidU8
import Derived.ChangeSame
set_option linter.all false
namespace Go.aP
noncomputable section
variable[aJ]
variable{P:Program}{H:Env}{F F':aC}{w:World}
abbrev eU:=Q3->aC->Option (AV×aC)
abbrev W3:=List (FuncId×eU)
def eG(P:Program)(f:FuncId)(g:eU):Prop:=∀args F r F',g args F=some (r,F')->∀H w a,SR P H F w->aG H args a->
 nH P f ⟨a⟩ w λv c=>∃b,St P H F w b F' c/\VR b r v
def TL:W3->Tr eU
 |[]=>.nil
 |(k,g)::l=>(TL l).set k (some g)
def adk(l:W3):zK:=(TL l).get
def am2:∀{l:W3}{f:FuncId}{g:eU},(TL l).get f=some g->(f,g)∈l
 |[],f,g,h=>by simp[TL]at h
 |(k,u)::l,f,g,h=>by
  rw[TL,Tr.wX]at h;split at h
  ·next e=>cases h;subst e;simp
  ·exact zG _ (am2 h)
def alf{l:W3}(h:∀p∈l,eG P p.1 p.2):UA P (adk l):=λf g a=>h (f,g) (am2 a)
structure Ext(P:Program)(f:FuncId)(e:QR->Sem Value):Prop where
 call:∀args w,(callFunc f args).run P w=((e args).run P w).andThen λv w'=>.ok (.value v) w'
def Ext.mk'{f:FuncId}{fn:Func}{e:QR->Sem Value}(b:P.funcs[f]? =some fn)(a:(fn.name == "runtime.NumGoroutine")=false)
 (c:fn.body.isNone=true) (d:Extern.findNext fn=none) (g:Extern.find fn=some e):Ext P f e:=⟨λargs w=>run_callFunc_extern b a c d g args w⟩
def Ext.zO{f:FuncId}{e:QR->Sem Value}(h:Ext P f e){args:QR}{R:Value->World->Prop}(a:∃v w',(e args).run P w=.ok v w'/\R v w'):nH P f args w R:=by obtain⟨v,w',b,c⟩:=a;exact .inl ⟨v,w',by rw[h.call,b];rfl,c⟩
def SB:eU:=λl F=>match l with|[x]=>some (x,F)|_=>none
def akA{f:FuncId}(h:Ext P f Extern.AbiNoEscape.same):eG P f SB:=by
 intro args F r F' a H w e c b;unfold SB at a;split at a
 ·cases a;simp only[aG]at b;obtain⟨x,_,rfl,d,rfl⟩:=b;exact h.zO ⟨x,w,rfl,H,St.refl c,d⟩
 ·cases a
def aai(a b:Q0):Int:=Extern.BytealgCompare.cmp ⟨⟨a⟩⟩ ⟨⟨b⟩⟩
def acv:eU:=λl F=>match l with|[.s a,.s b]=>some (.i .i64 (aai a b),F)|_=>none
def azF{f:FuncId}(h:Ext P f Extern.BytealgCompare.compare):eG P f acv:=by
 intro args F r F' a H w d c b;unfold acv at a;split at a
 ·cases a;simp only[aG,VR]at b;obtain⟨x,_,rfl,rfl,y,_,rfl,rfl,rfl⟩:=b;refine h.zO ⟨_,w,rfl,H,St.refl c,by simp only[VR];rfl⟩
 ·cases a
def countB(a:Q0)(c:Int):Int:=(⟨⟨a⟩⟩:ByteArray).foldl (λ(n:Int) x=>if x==c.toNat.toUInt8 then n+1 else n) ((0:Nat):Int)
def acw:eU:=λl F=>match l with|[.s a,.i .u8 c]=>some (.i .i64 (countB a c),F)|_=>none
def azG{f:FuncId}(h:Ext P f Extern.BytealgCount.count):eG P f acw:=by
 intro args F r F' a H w d c b;unfold acw at a;split at a
 ·cases a;simp only[aG,VR]at b;obtain⟨x,_,rfl,rfl,y,_,rfl,rfl,rfl⟩:=b;refine h.zO ⟨_,w,rfl,H,St.refl c,by simp only[VR];rfl⟩
 ·cases a
def indexB(a:Q0)(c:Int):W2:=(List.range (⟨⟨a⟩⟩:ByteArray).size).find? λi=>(⟨⟨a⟩⟩:ByteArray)[i]! ==c.toNat.toUInt8
def acy:eU:=λl F=>match l with
 |[.s a,.i .u8 c]=>match indexB a c with
  |some i=>some (.i .i64 i,F)
  |none=>some (.i .i64 (-1),F)
 |_=>none
def azI{f:FuncId}(h:Ext P f Extern.BytealgIndexByte.indexByte):eG P f acy:=by
 intro args F r F' d H w j e g;unfold acy at d;split at d
 ·next a c=>
  simp only[aG,VR]at g;obtain⟨x,_,rfl,rfl,y,_,rfl,rfl,rfl⟩:=g;split at d
  ·next i hi=>
   cases d;refine h.zO ⟨.int .i64 i,w,?_,H,St.refl e,by simp only[VR]⟩;have b:((List.range (⟨⟨a⟩⟩:ByteArray).size).find? λi=>(⟨⟨a⟩⟩:ByteArray)[i]! ==c.toNat.toUInt8)=some i:=hi;show(match(List.range (⟨⟨a⟩⟩:ByteArray).size).find? (λi=>(⟨⟨a⟩⟩:ByteArray)[i]! ==c.toNat.toUInt8)with|some i=>(pure (goInt i):Sem Value)|none=>pure (goInt (-1))).run P w=_
   rw[b];rfl
  ·next hi=>
   cases d;refine h.zO ⟨.int .i64 (-1),w,?_,H,St.refl e,by simp only[VR]⟩;have b:((List.range (⟨⟨a⟩⟩:ByteArray).size).find? λi=>(⟨⟨a⟩⟩:ByteArray)[i]! ==c.toNat.toUInt8)=none:=hi;show(match(List.range (⟨⟨a⟩⟩:ByteArray).size).find? (λi=>(⟨⟨a⟩⟩:ByteArray)[i]! ==c.toNat.toUInt8)with|some i=>(pure (goInt i):Sem Value)|none=>pure (goInt (-1))).run P w=_
   rw[b];rfl
 ·cases d
def acs:eU:=λl F=>match l with
 |[.i .u64 x,.i .u64 y,.i .u64 c]=>if 0<=x/\0<=y/\0<=c/\c<=1 then some (.fK [.i .u64 ((x+y+c)%18446744073709551616),.i .u64 ((x+y+c)/18446744073709551616)],F)else none
 |_=>none
def azB{f:FuncId}(h:Ext P f add64Entry):eG P f acs:=by
 intro args F r F' a H w m e d;unfold acs at a;split at a
 ·next x y c=>
  split at a
  ·next g=>
   cases a;obtain⟨i,j,k,l⟩:=g;simp only[aG,VR]at d;obtain⟨_,_,rfl,rfl,_,_,rfl,rfl,_,_,rfl,rfl,rfl⟩:=d;have b:=run_add64 (P:=P) x y c i j k l w;refine h.zO ⟨_,w,b,H,St.refl e,?_⟩;simp only[VR];refine⟨_,rfl,aG.cons ?_ (aG.cons ?_ (by simp[aG]))⟩<;>simp only[VR]<;>congr 1
  ·cases a
 ·cases a
def acD(P:Program):eU:=λl F=>match l with
 |[.jM t a]=>match tu P (Extern.Rtype.kind t)with
  |some k=>some (.agg [.p P.globals.size t,.p F.next 0,.i .u64 ((k+128:Nat):Int)],F.new (.cells a.cells t true false))
  |none=>none
 |_=>none
def aiu(h:SR P H F w)(t:TypeId):VR H (.p P.globals.size t) (typeHandle P t):=by obtain⟨b,es,a⟩:=h.oN P.globals.size (dP _);simp only[VR];exact⟨_,a,by simp[typeHandle]⟩
def azN{f:FuncId}(h:Ext P f (λargs=>Extern.ReflectliteValue.unpack (args.getD 0 (.tuple #[])))):eG P f (acD P):=by
 intro args F r F' b H w z n i;unfold acD at b;split at b
 ·next t a=>
  split at b
  ·next k o=>
   cases b;simp only[aG,VR]at i;obtain⟨_,_,rfl,⟨x,rfl,p⟩,rfl⟩:=i;obtain⟨y,d,s,c,j,l⟩:=afX (t:=t) n p;simp only[VR]at l;obtain⟨q,u,rfl⟩:=l;have g:(newVar t x).run P w=.ok ⟨q.bl,q.ba+0,none⟩ d:=by
    simp only[Instr.box,aY]at c;cases m:(newVar t x).run P w with
    |ok A v=>rw[m]at c;simp only[aX,bQ,Result.ok.injEq,Value.pointer.injEq,bD]at c;obtain⟨rfl,rfl⟩:=c;rfl
    |halt e v=>rw[m]at c;simp at c
   refine h.zO ⟨.agg #[typeHandle P t,.pointer (some ⟨q.bl,q.ba+0,none⟩),.int .u64 ((k+128:Nat):Int)],d,?_,s,j,?_⟩
   ·show(Extern.ReflectliteValue.unpack (.iface t x)).run P w=_
    simp only[Extern.ReflectliteValue.unpack,Extern.ReflectliteValue.mk,aY,g,aX,Extern.Rtype.handle,program,Sem.run,bQ,D6 o d];rfl
   ·simp only[VR];exact⟨_,rfl,aG.cons (by simpa only[VR]using aiu j.rel t) (aG.cons (by simp only[VR];exact⟨q,u,rfl⟩) (aG.cons (by simp only[VR]) (by simp[aG])))⟩
  ·cases b
 ·cases b
def acz(P:Program):eU:=λl F=>match l with
 |[.agg [.p g t,.p id a,.i .u64 f]]=>
  if g=P.globals.size/\0<f/\f.toNat%32=23 then
   match tu P (Extern.Rtype.noPack "a Value asked or handed on" t),tu P (Extern.Rtype.under t),yK P t F (.p id a)with
   |some _,some (_,i),some v=>match i.desc with
    |.slice _=>(UK P F t v).map λn=>(n,F)
    |_=>none
   |_,_,_=>none
  else none
 |_=>none
def aiw(t:TypeId){id:Nat}{x:Value}(b:SR P H F w)(c:id=P.globals.size)(h:VR H (.p id t) x):x=typeHandle P t:=by subst c;obtain⟨e,es,d⟩:=b.oN P.globals.size (dP _);simp only[VR]at h;obtain⟨q,a,rfl⟩:=h;rw[d]at a;cases a;simp[typeHandle]
def ace(t:TypeId):(Extern.Rtype.ofHandle (typeHandle P t)).run P w=.ok t w:=by simp[Extern.Rtype.ofHandle,handleType,typeHandle,program,Sem.run]
def azJ{f:FuncId}(h:Ext P f (Extern.ReflectliteValue.method (Extern.ReflectliteValue.valueError "reflectlite.Value.Len" 0) Extern.ReflectliteValue.len)):eG P f (acz P):=by
 intro args F r F' d H w vs A G;unfold acz at d;split at d
 ·next g t id b c=>
  split at d
  ·next L=>
   obtain⟨M,I,N⟩:=L;split at d
   ·next u u2 i v O Q R=>
    split at d
    ·next e B=>
     simp only[bI,qI]at d;obtain⟨n,S,rfl,rfl⟩:=d;simp only[aG]at G;obtain⟨_,_,rfl,o,rfl⟩:=G;rw[VR]at o;obtain⟨ws,rfl,o⟩:=o;simp only[aG]at o;obtain⟨a1,_,rfl,D,a2,_,rfl,k,a3,_,rfl,p,rfl⟩:=o;have T:=aiw t A M D;subst T;obtain⟨y,U,V⟩:=Io A R k;simp only[VR]at k p;obtain⟨q,hq,rfl⟩:=k;subst p;obtain⟨z,W,X⟩:=aju (ts:=#[t]) (ty:=0) A rfl S V;refine h.zO ⟨z,w,?_,H,St.refl A,X⟩;have Y:c≠0:=ah;have j:(Extern.ReflectliteValue.parts (.agg #[typeHandle P t,.pointer (some ⟨q.bl,q.ba+b,none⟩),.int .u64 c])).run P w=.ok (some (t,⟨q.bl,q.ba+b,none⟩,c.toNat)) w:=by
      have s:(Extern.ReflectliteValue.partsAny (.agg #[typeHandle P t,.pointer (some ⟨q.bl,q.ba+b,none⟩),.int .u64 c])).run P w=.ok (some (t,⟨q.bl,q.ba+b,none⟩,c.toNat)) w:=by
       have B:Extern.ReflectliteValue.partsAny (.agg #[typeHandle P t,.pointer (some ⟨q.bl,q.ba+b,none⟩),.int .u64 c])=(do pure (some (<-Extern.Rtype.ofHandle (typeHandle P t),⟨q.bl,q.ba+b,none⟩,c.toNat))):=by
        obtain⟨m,rfl⟩:∃m:Nat,c=((m+1:Nat):Int):=⟨c.toNat-1,ah⟩
        rfl
       rw[B];simp only[aY,ace,aX,bQ]
      unfold Extern.ReflectliteValue.parts;simp only[aY,s,aX,D6 O w,bQ]
     have x:(Extern.ReflectliteValue.len t ⟨q.bl,q.ba+b,none⟩ c.toNat (c.toNat%32)).run P w=.ok z w:=by
      unfold Extern.ReflectliteValue.len;have E:(loadVar t ⟨q.bl,q.ba+b,none⟩).run P w=.ok y w:=by simpa[Instr.loadAt,Instr.sureAddr]using U
      rw[N];have l:(!([17,18,21,23,24]:Q2).contains 23)=false:=rfl;simp only[l,iI,if_false,aY,D6 Q w,aX,B,E,W]
     show(Extern.ReflectliteValue.method _ _ #[_]).run P w=_
     have Z:Extern.ReflectliteValue.method (Extern.ReflectliteValue.valueError "reflectlite.Value.Len" 0) Extern.ReflectliteValue.len #[.agg #[typeHandle P t,.pointer (some ⟨q.bl,q.ba+b,none⟩),.int .u64 c]]=(do
      match <-Extern.ReflectliteValue.parts (.agg #[typeHandle P t,.pointer (some ⟨q.bl,q.ba+b,none⟩),.int .u64 c])with
      |none=>Extern.ReflectliteValue.valueError "reflectlite.Value.Len" 0
      |some (t,a,c)=>Extern.ReflectliteValue.len t a c (c%32)):=rfl
     rw[Z];simp only[aY,j,aX];exact x
    ·cases d
   ·cases d
  ·cases d
 ·cases d
def ajs:AV->Option Nat
 |.iw=>some 0
 |.sl _ _ n _=>some n
 |_=>none
def TF:XS->Nat->Option FuncId
 |[],_=>none
 |(j,f)::l,k=>bif Nat.beq k j then some f else TF l k
def amH:∀{a:XS}{k:Nat}{f:FuncId},TF a k=some f->(k,f)∈a
 |[],k,f,h=>by simp[TF]at h
 |(j,g)::l,k,f,h=>by
  unfold TF at h;cases b:Nat.beq k j with
  |true=>rw[b]at h;cases h;rw[bV b];exact Um
  |false=>rw[b]at h;exact zG _ (amH h)
def afm(P:Program)(a:XS):Prop:=∀p∈a,P.funcs.findIdx? (·.name == "internal/reflectlite" ++ ".Swapper$" ++toString p.1)=some p.2
def acC(P:Program)(a:XS):eU:=λl F=>match l with
 |[.jM t s]=>
  match tu P (Extern.Rtype.elem? t)with
  |some (some e)=>
   match ajs s,P.info? e,tu P (Extern.Rtype.kind e)with
   |some n,some i,some b=>
    let k:Nat:=
     if n==0 then 1 else if n==1 then 2
     else if i.hasPointers&&i.bytes==8 then 3
     else if i.hasPointers&&(b==24)then 4
     else if i.hasPointers then 9
     else match i.bytes with|8=>5|4=>6|2=>7|1=>8|_=>9
    match TF a k with
    |some f=>some (.fn f [] (if k<=2 then[]else[s,.p P.globals.size e]),F)
    |none=>none
   |_,_,_=>none
  |_=>none
 |_=>none
def aFv(c:String)(a:Nat->Sem Value)(t:TypeId)(s:Value):Extern.ReflectliteSwapper.swapper c a #[.iface t s]=(do
 let(.slice _ n _,some e):=(s,<-Extern.Rtype.elem? t)|a (<-Extern.Rtype.kind t)
 let i <-typeInfo e
 let b:=(<-Extern.Rtype.kind e)==24
 let k:Nat:=
  if n==0 then 1 else if n==1 then 2
  else if i.hasPointers&&i.bytes==8 then 3
  else if i.hasPointers&&b then 4
  else if i.hasPointers then 9
  else match i.bytes with|8=>5|4=>6|2=>7|1=>8|_=>9
 let h <-Extern.Rtype.handle e
 Extern.ReflectliteSwapper.literal c k (if k<=2 then #[]else #[s,h])):=rfl
def azM{f:FuncId}(h:Ext P f (Extern.ReflectliteSwapper.swapper "internal/reflectlite" (Extern.ReflectliteValue.valueError "Swapper"))){g:XS}(j:afm P g):eG P f (acC P g):=by
 intro args F r F' b H w G u v;unfold acC at b;split at b
 ·next t s=>
  split at b
  ·next e z=>
   split at b
   ·next n i A m hi B=>
    simp only at b;split at b
    ·next D d=>
     cases b;simp only[aG,VR]at v;obtain⟨_,_,rfl,⟨x,rfl,l⟩,rfl⟩:=v;have o:∃a c,x=.slice a n c:=by
      cases s<;>simp[ajs]at m
      ·subst m;simp only[VR]at l;exact⟨_,_,l⟩
      ·subst m;simp only[VR]at l;obtain⟨q,_,_,rfl⟩:=l;exact⟨_,_,rfl⟩
     obtain⟨a,c,rfl⟩:=o;generalize p:(if(n==0)=true then 1 else if(n==1)=true then 2 else if(i.hasPointers&&i.bytes==8)=true then 3 else if(i.hasPointers&&(A==24))=true then 4 else if i.hasPointers=true then 9 else match i.bytes with|8=>5|4=>6|2=>7|1=>8|_=>9:Nat)=k at *;have d:=j _ (amH d);refine h.zO ⟨.func (.func D) #[] (if k<=2 then #[]else #[.slice a n c,typeHandle P e]),w,?_,H,St.refl u,?_⟩
     ·show(Extern.ReflectliteSwapper.swapper "internal/reflectlite" _ #[.iface t (.slice a n c)]).run P w=_
      have E:=aFv "internal/reflectlite" (Extern.ReflectliteValue.valueError "Swapper") t (.slice a n c);rw[E];simp only[aY,D6 z w,aX,IQ hi,D6 B w,Extern.Rtype.handle,program,Sem.run,bQ,p,Extern.ReflectliteSwapper.literal,d]
     ·simp only[VR];by_cases y:k<=2
      ·simp only[y,if_true];exact⟨[],[],rfl,by simp[aG],by simp[aG]⟩
      ·simp only[y,if_false];exact⟨[],[_,_],rfl,by simp[aG],aG.cons l (aG.cons (aiu u e) (by simp[aG]))⟩
    ·cases b
   ·cases b
  ·cases b
 ·cases b
def FM(P:Program):eU:=λl F=>match l with
 |[.i .i64 i,.i .i64 j,.sl id b n c,.p g e]=>
  if g=P.globals.size/\0<=i/\i<n/\0<=j/\j<n then
   match sizeT P e with
   |some a=>
    match yK P e F (.p id (b+i.toNat*a)),yK P e F (.p id (b+j.toNat*a))with
    |some x,some y=>match GN P e F (.p id (b+i.toNat*a)) y with
     |some d=>match GN P e d (.p id (b+j.toNat*a)) x with
      |some f=>some (.fK [],f)
      |none=>none
     |none=>none
    |_,_=>none
   |none=>none
  else none
 |_=>none
def ajx{t:TypeId}{b:Bool}{a:Addr}{y:Value}(h:(Instr.loadAt t (.pointer (some a))).run P w=.ok y w):(loadVar t a).run P w=.ok y w:=by simpa[Instr.loadAt,Instr.sureAddr]using h
def amD{t:TypeId}{a:Addr}{y:Value}{w':World}(h:(Instr.storeAt t (.pointer (some a)) y).run P w=.ok () w'):(storeVar t a y).run P w=.ok () w':=by simpa[Instr.storeAt,Instr.sureAddr]using h
def Lm{f:FuncId}{b:Bool}(h:Ext P f (Extern.ReflectliteSwapper.swap b)):eG P f (FM P):=by
 intro args F r F' k H w vs s M;unfold FM at k;split at k
 ·next i j id a n V g e=>
  split at k
  ·next W=>
   obtain⟨X,Y,Z,aa,ab⟩:=W;split at k
   ·next d t=>
    split at k
    ·next x y hx hy=>
     split at k
     ·next F1 v=>
      split at k
      ·next F2 z=>
       cases k;simp only[aG]at M;obtain⟨v1,_,rfl,N,v2,_,rfl,O,v3,_,rfl,Q,v4,_,rfl,h4,rfl⟩:=M;have e4:=aiw e s X h4;subst e4;simp only[VR]at N O Q;subst N;subst O;obtain⟨q,R,ac,rfl⟩:=Q;have S:VR H (.p id (a+i.toNat*d)) (.pointer (some ⟨q.bl,q.ba+(a+i.toNat*d),none⟩)):=by simp only[VR];exact⟨q,R,rfl⟩
       have T:VR H (.p id (a+j.toNat*d)) (.pointer (some ⟨q.bl,q.ba+(a+j.toNat*d),none⟩)):=by simp only[VR];exact⟨q,R,rfl⟩
       obtain⟨u,hu,A⟩:=Io s hx S;obtain⟨u',B,D⟩:=Io s hy T;obtain⟨w1,l,m⟩:=Yu s v S D;have E:VR H (.p id (a+j.toNat*d)) (.pointer (some ⟨q.bl,q.ba+(a+j.toNat*d),none⟩)):=T;obtain⟨U,o,G⟩:=Yu m.rel z E A;refine h.zO ⟨.tuple #[],U,?_,H,m.trans G,by simp only[VR];exact⟨[],rfl,by simp[aG]⟩⟩;have p:(Extern.ReflectliteSwapper.exchange e ⟨q.bl,q.ba+a,none⟩ i.toNat j.toNat).run P w=.ok (.tuple #[]) U:=by unfold Extern.ReflectliteSwapper.exchange;have a1:=ajx (b:=true) hu;have a2:=ajx (b:=true) B;have a3:=amD l;have a4:=amD o;simp only[aY,jP t,aX,tY,kE,a1,a2,a3,a4,bQ]
       have t1:¬(i<0\/i>=n):=ah;have t2:¬(j<0\/j>=n):=ah;show(Extern.ReflectliteSwapper.swap b #[.int .i64 i,.int .i64 j,.slice (some ⟨q.bl,q.ba+a,none⟩) n _,typeHandle P e]).run P w=_
       cases b
       ·have I:∀c,Extern.ReflectliteSwapper.swap false #[.int .i64 i,.int .i64 j,.slice (some ⟨q.bl,q.ba+a,none⟩) n c,typeHandle P e]=(do
         if i<0 ||i>=n ||j<0 ||j>=n then Extern.ReflectliteSwapper.outOfRange
         Extern.ReflectliteSwapper.exchange (<-Extern.Rtype.ofHandle (typeHandle P e)) ⟨q.bl,q.ba+a,none⟩ i.toNat j.toNat):=λ_=>rfl
        rw[I];have L:(decide (i<0) ||decide (i>=n) ||decide (j<0) ||decide (j>=n))=false:=by simp;omega
        simp only[L,iI,if_false,aY,ace,aX,p]
       ·have I:∀c,Extern.ReflectliteSwapper.swap true #[.int .i64 i,.int .i64 j,.slice (some ⟨q.bl,q.ba+a,none⟩) n c,typeHandle P e]=(do
         if i<0 ||i>=n then boundsPanic .i64 i n .index
         if j<0 ||j>=n then boundsPanic .i64 j n .index
         Extern.ReflectliteSwapper.exchange (<-Extern.Rtype.ofHandle (typeHandle P e)) ⟨q.bl,q.ba+a,none⟩ i.toNat j.toNat):=λ_=>rfl
        rw[I];have L:(decide (i<0) ||decide (i>=n))=false:=by simp;omega
        have t4:(decide (j<0) ||decide (j>=n))=false:=by simp;omega
        simp only[L,t4,iI,if_false,aY,ace,aX,p]
      ·cases k
     ·cases k
    ·cases k
   ·cases k
  ·cases k
 ·cases k
end
noncomputable section
variable[aJ]
variable{P:Program}
open Go.Extern.BytealgMakeNoZero
def ag3:∀(n t:Nat)(a:QR),(digits n t a).size=a.size+n
 |0,_,_=>rfl
 |n+1,t,a=>by rw[digits,ag3];simp;omega
def ag2:∀(n t:Nat)(a:QR)(k:Nat),k<a.size->(digits n t a)[k]? =a[k]?
 |0,_,_,_,_=>rfl
 |n+1,t,a,k,h=>by rw[digits,ag2 n _ _ k (by simp;omega),Jd,aj ah]
def ag1:∀(n t:Nat)(a:QR)(k:Nat),a.size<=k->k<a.size+n->∃m:Int,0<=m/\m<=255/\(digits n t a)[k]? =some (.int .u8 m)
 |0,_,_,_,h1,b=>ah
 |n+1,t,a,k,h1,b=>by
  rw[digits];by_cases e:k=a.size
  ·subst e;refine⟨Int.ofNat (t%256),Int.natCast_nonneg _,by have:=Nat.mod_lt t (show 256>0 by decide);simp;omega,?_⟩;rw[ag2 n _ _ _ aA,Jd,au rfl]
  ·exact ag1 n _ _ k (by simp;omega) (by simp;omega)
def acA(e:TypeId):eU:=λl F=>match l with
 |[.i .i64 n]=>if 0<=n/\n<=1048576 then some (.sl F.next 0 n.toNat none,F.new (.cells (List.replicate n.toNat (.z .u8 0 255)) e true true))else none
 |_=>none
def azK{f:FuncId}{D rs:Wt}{t e:TypeId}(h:Ext P f (makeNoZero D rs))(E:rs[0]? =some t)(G:P.underlying t=some (.slice e))(I:e≠0)(s:sizeT P e=some 1):eG P f (acA e):=by
 intro args F r F' i H w Q u B;unfold acA at i;split at i
 ·next n=>
  split at i
  ·next R=>
   cases i;simp only[aG,VR]at B;obtain⟨x,_,rfl,rfl,rfl⟩:=B;have d:=grownCap_ge w n.toNat 0 e;generalize l:grownCap w n.toNat 0 e=c at d;let w1:World:=w.drew
   obtain⟨bytes,v⟩:∃b,(choose (.extern "internal/bytealg.MakeNoZero.bytes" 0)).run P w1=.ok b w1.drew:=by simp only[choose,Sem.run,Question.forced,iI,if_false];exact⟨_,rfl⟩
   have y:(choose (.appendCap n.toNat 0 e)).run P w=.ok c w1:=by simp only[choose,Sem.run,Question.forced,iI,if_false];rw[<-l];rfl
   have g:∀w:World,(askRoom c).run P w=.ok () w:=λw=>by unfold askRoom;split<;>simp[mark,Sem.run]
   let j:=digits c bytes #[]
   have o:j.size=c:=by simp[j,ag3]
   have z:St P H F w1.drew (H.put F.next ⟨w.heap.size,0,c,1⟩) (F.new (.cells (List.replicate n.toNat (.z .u8 0 255)) e true true)) {w1.drew with heap:=w.heap.push (.cells j e)}:=by
    refine St.alloc (w:=w1.drew) u.drew.drew _ _ _ rfl ?_;refine⟨j,e,(0,0),by show(w.heap.push _)[w.heap.size]? =_;simp,?_⟩;refine {fits:=by simp[o],le:=by simpa using d,shut:=aA,cell:=?_,free:=λ_ k p=>?_,whole:=λ_=>⟨rfl,by simp[o],λ_=>rfl⟩,room:=λ_=>⟨I,Nat.one_pos,s⟩}
    ·intro k a p;rw[List.getElem?_replicate]at p;split at p
     ·next L=>
      cases p;obtain⟨m,M,N,O⟩:=ag1 c bytes #[] k aA (by simp;omega);exact⟨_,by simpa[j]using O,m,M,N,rfl⟩
     ·cases p
    ·simp
   refine h.zO ⟨.slice (some ⟨w.heap.size,0,none⟩) n.toNat c,{w1.drew with heap:=w.heap.push (.cells j e)},?_,_,((St.drew u).trans (St.drew u.drew)).trans z,?_⟩
   ·have A:¬((n<0 ||n>2^48)=true):=by simp;omega
    conv=>lhs;arg 2;whnf
    simp only[E,aY,bF G,aX,aj A,bQ,y,g,v,newRow,newObj];rfl
   ·have:=KZ (q:=⟨w.heap.size,0,c,1⟩) (H:=H) (id:=F.next) (len:=n.toNat) (cap:=none) rfl (by simp only[wE,Nat.div_one];exact d);simpa using this
  ·cases i
 ·cases i
end
noncomputable section
variable[aJ]
open Go.ChangeShapes Go.WideShapes
variable{P:Program}
def afD{a b:Bool}(c:a=true)(d:b=true):(a&&b)=true:=by rw[c,d];rfl
structure Kept(W W':World):Prop where
 os:W'.os=W.os
 tape:W'.tape=W.tape
 output:W'.output=W.output
 size:W.heap.size<=W'.heap.size
 keep:∀bl,bl<W.heap.size->W'.heap[bl]? =W.heap[bl]?
def Kept.but{W a:World}(h:Kept W a)(m:MemPlace->Prop):W.keptBut a m:=by
 refine⟨h.os,h.output,λi hi=>?_⟩;rw[h.keep i hi];cases b:W.heap[i]? with
 |none=>trivial
 |some o=>cases o<;>first|exact⟨rfl,rfl,rfl,λ_ _=>rfl⟩|exact .inr ⟨rfl,rfl⟩|rfl
def Kept.frozen{W b:World}(h:Kept W b)(a:Addr)(c:a.block<W.heap.size):b.frozen? a=W.frozen? a:=by unfold World.frozen?;rw[h.keep _ c]
def St.kept{H H':Env}{F F':aC}{w w':World}(h:St P H F w H' F' w')(a:∀id o,F.get id=some o->o.own=false):Kept w w':=
 ⟨h.os,h.tape,h.output,h.size,λc d=>h.keep c d λid o q e b _ _=>by rw[a id o e]at b;cases b⟩
def nH.calls{f:FuncId}{fn:Func}{c:Code}{args:QR}{w:World}{R:Value->World->Prop}(g:yG P)(b:P.funcs[f]? =some fn)(d:fn.body=some c)
 (h:nH P f args w R):Calls P f args w λe w'=>∃v,e=.returned v/\R v w':=by
 rcases h with⟨v,w',h,_⟩|⟨_,h⟩
 ·have a:=g f fn c b d;simp only[callFunc,aY,program,Sem.run,aX,b]at h;simp only[a,iI,if_false,d,MZ,bQ]at h;cases h
 ·exact h
def Calls.mono'{f:FuncId}{args:QR}{w:World}{R a:Ending->World->Prop}(h:Calls P f args w R)(b:∀e w',R e w'->a e w'):Calls P f args w a:=by intro c;obtain⟨e,w',d,g,i⟩:=h c;exact⟨e,w',d,b e w' g,i⟩
def axr{f:FuncId}{fn:Func}{c:Code}{args:Q3}{vs:Q6}{w:World}{H:Env}{F F':aC}{r:AV}{call:Caller}(a:uD P call)(h:yG P)(i:P.funcs[f]? =some fn)(j:fn.body=some c)
 (b:call f args F=some (r,F')) (k:SR P H F w) (l:aG H args vs) (d:∀id o,F.get id=some o->o.own=false):
 Calls P f ⟨vs⟩ w λe w'=>∃v,e=.returned v/\(∃H',VR H' r v)/\Kept w w':=
 Calls.mono' (nH.calls h i j (a f args F r F' b H w vs k l)) λ_ _ ⟨v,m,H',g,n⟩=>⟨v,m,⟨H',n⟩,g.kept d⟩
def xM(n:Nat)(F:aC)(ro:Nat->Option Obj:=λ_=>none):Env:=⟨λid=>if id<=n then some ⟨id,0,(match F.get id with|some (.cells c _ _ _)=>c.length|_=>0),0⟩else none,ro,λ_=>false⟩
structure TabAt(w:World)(g:Nat)(c:Q3):Prop where
 at':∃cs elem fr,w.heap[g]? =some (.cells cs elem fr)/\c.length<=cs.size/\Zr c cs
def Nb{F:aC}{w:World}(I:P.globals.size<F.next)(d:∀id o,F.get id=some o->id<=P.globals.size/\∃c,o=.cells c 0 false false/\TabAt w id c){ro:Qf}(i:∀b o,ro b=some o->w.heap[b]? =some o)(e:∀p∈aJ.tabs,GI (xM P.globals.size F ro) p.1 p.2):SR P (xM P.globals.size F ro) F w:=by
 refine⟨λg j=>?_,λid q l=>?_,λid o s=>?_,λ_ j=>(by cases j),λid o t L q M m n N u=>?_,i,λid o q m n _=>?_,e⟩;rotate_right
 ·obtain⟨_,c,rfl,_⟩:=d id o m;cases n
 ·exact⟨_,_,by simp only[xM];rw[au j]⟩
 ·simp only[xM]at l;split at l
  ·omega
  ·cases l
 ·obtain⟨r,c,rfl,⟨v,f,y,z,A,B⟩⟩:=d id o s;refine .inl ⟨⟨id,0,c.length,0⟩,?_,v,f,y,z,?_⟩
  ·simp only[xM];rw[au r,s]
  ·refine⟨by simpa using A,dP _,λ_=>rfl,λk a D=>?_,(λh=>by cases h),λh=>absurd rfl h,(λh=>by cases h)⟩;obtain⟨x,E,G⟩:=B.1 k a D;exact⟨x,by simpa using E,G.vr⟩
 ·obtain⟨_,c,rfl,_⟩:=d id o m;cases n
def aea{w:World}{b:String}{k:IntKind}{d:List Int}{g:Nat}(h:Lib.TabIs P w b k d)(j:P.globalNamed b=some g)(c:d.isEmpty=false:=by rfl):TabAt w g (d.map λz=>.i k z):=by
 unfold Lib.TabIs World.var? at h;rw[j]at h;simp only[BA]at h;split at h
 ·next m e n l=>
  cases h;refine⟨_,_,_,l,aA,λi a f=>?_,λ_=>aA,λh=>by simp at h;rw[h]at c;cases c⟩;simp only[jA,bI]at f;obtain⟨z,c,rfl⟩:=f;exact⟨.int k z,by simp[c],.inl rfl⟩
 ·cases h
def acE(k:IntKind)(n:Nat)(f:Nat->Int):DataW Unit:=.agg ((List.range n).map λi=>.agg ([f (2*i),f (2*i+1)].map λz=>.lit (.int k z)))
def aFL{w:World}{c:String}{k:IntKind}{n:Nat}{f:Nat->Int}{g:Nat}{t e:TypeId}{fs:Array Field}(h:Lib.VarReads P w c (acE k n f))(O:P.globalNamed c=some g)
 (B:(P.globals[g]?).map (·.type)=some t) (Q:P.underlying t=some (.array n e)) (U:P.underlying e=some (.struct fs))
 (V:∀(m:Nat)(z:Field),fs[m]? =some z->P.underlying z.type=some (.int k)/\z.offset=m/\P.cellsOf z.type=1) (D:fs.size=2)
 (r:P.cellsOf e=2) (E:P.cellsOf t=2*n) (Z:n≠0:=by decide):TabAt w g ((List.range (2*n)).map λj=>.i k (f j)):=by
 obtain⟨g',t',R,i,p,G,I,b,s⟩:=h;obtain rfl:=Jq (O.symm.trans G);obtain rfl:=Jq (B.symm.trans I);have l:R.toList.length=2*n:=by
  cases i with
  |zero=>simp[DataW.trod]at s
  |succ i=>
   simp only[DataW.trod,Q]at s;split at s
   ·next W=>rw[<-E];exact W
   ·cases s
 have o:∀j,j<2*n->R[j]? =some (.int k (f j)):=by
  intro j hj;obtain⟨L,d,q,u,v⟩:=Lib.array_elem Q s (j/2) ah;simp only[jA,ae3 (ah:j/2<n),iO,bD]at u;subst u;rw[r]at v;have x:=Lib.ints_of_struct U V (by rw[r,D]) v;have M:=uT (·[0]?) x;have N:=uT (·[1]?) x;simp[uJ]at M N;by_cases A:j%2=0
  ·have:j/2*2=j:=ah;rw[this]at M;rw[M];congr 3;omega
  ·have:j/2*2+1=j:=ah;rw[this]at N;rw[N];congr 3;omega
 unfold World.var? at b;rw[O]at b;simp only[BA]at b;split at b
 ·next X S fr Y=>
  cases b;refine⟨_,_,_,Y,by simp at l⊢;omega,λj a T=>?_,λ_=>by simp at l⊢;omega,λh=>by simp at h;omega⟩;simp only[jA,bI]at T;obtain⟨m,A,rfl⟩:=T;have y:j<2*n:=by have:=(gy.1 A).1;simpa using this
  rw[ae3 y]at A;cases A;exact⟨_,o j y,.inl rfl⟩
 ·cases b
def aAE{q:Type}{enc:TypeId×Value->q}{f:Func}{s:ChangeSpec}{apart l c again:Bool}{W o:World}{args:QR}{v:Value}{u gs:List (DataW q)}{a pa pv:List MemPlace}
 (y:DataW.Whole enc P f.params.toList s.vars apart W args.toList u gs a)
 (i:∀(b:Nat)(m:Nat->Bool)(D:Bool),DataW.TrodAll enc P o b m D f.resultTypes.toList (v.resultList f.resultTypes.size) (s.fn q (u++gs)).results [])
 (d:∀m:Nat->Bool,(∀p∈a,m p.block=true)->DataW.TrodAll enc P o 0 m true f.params.toList args.toList (s.fn q (u++gs)).args pa)
 (e:∀m:Nat->Bool,(∀p∈a,m p.block=true)->DataW.TrodVars enc P o m s.vars (s.fn q (u++gs)).vars pv)
 (h:a=pa++pv) (B:Kept W o)
 (z:∀(j:Nat)(t:TypeId)(r:Value),f.resultTypes[j]? =some t->(v.resultList f.resultTypes.size)[j]? =some r->Value.okWide P o .any 0 t r):
 s.post enc P f apart l c again W args v o:=by
 have k:∀p∈a,(λb=>decide (b<W.heap.size)) p.block=true:=λp g=>by simpa using y.lt p g
 have A:=λp g=>y.lt p g;refine⟨u,gs,a,[],pa,pv,y,i _ _ _,d _ k,e _ k,World.keptBut_mono (λp g=>⟨g,?_⟩) (B.but (·∈a)),λ_=>?_⟩
 ·rw[h,jQ]at g;exact Or.inr g
 ·obtain⟨_,_,_,_,_,E,G⟩:=y;refine⟨z,_,_,([]++pa)++pv,⟨[]++pa,pv,trodAll_append (d _ (λ_ _=>rfl)) (i _ _ _),e _ (λ_ _=>rfl),rfl,?_,?_⟩,?_⟩
  ·intro b n g;have x:MemPlace.cell b n∈a:=by rw[h];simpa using g
   have I:=A _ x;rw[B.frozen ⟨b,n,none⟩ I];exact E b n x
  ·intro L;have:=G L;rw[h]at this;simpa using this
  ·intro p g _;rw[h];simpa using g
end
noncomputable section
variable[aJ]
variable{P:Program}
def nH.mono{f:FuncId}{args:QR}{w:World}{R c:Value->World->Prop}(h:nH P f args w R)(d:∀v w',R v w'->c v w'):nH P f args w c:=by
 rcases h with⟨v,w',a,b⟩|⟨a,b⟩
 ·exact .inl ⟨v,w',a,d v w' b⟩
 ·refine .inr ⟨a,Calls.mono' b ?_⟩;rintro e w' ⟨v,g,i⟩
  exact⟨v,g,d v w' i⟩
def St.acg{H:Env}{F:aC}{w w':World}(h:SR P H F w)(a:Kept w w'):St P H F w H F w':=by refine⟨Env.le.refl _,⟨h.oN,h.dom,λid o d=>?_,h.lq,h.sep,λb o c=>(a.keep b (xP (h.jH b o c))).trans (h.jH b o c),h.ny,h.tabs⟩,a.size,λe c _=>a.keep e c,λid o q f g i j=>.inr ⟨id,o,q,f,g,i,j,rfl⟩,a.os,a.tape,a.output,rfl,dP _,λ_ h=>.inl h,λ_ h=>.inl h⟩;exact(h.live id o d).heap λq _ k=>a.keep _ k.lt
def GI.at{H:Env}{F:aC}{w:World}(h:SR P H F w){g:Nat}{c:Q3}(b:GI H g c):TabAt w g c:=by obtain⟨d,a,e,f,i,j⟩:=b;exact⟨d,a,e,h.jH _ _ f,i,j⟩
def BH(F0:aC)(n:Nat):Prop:=n<F0.next/\∀id o,F0.get id=some o->∃c,o=.cells c 0 false false/\(id,c)∈aJ.tabs/\id<=n
def SR.YI{H:Env}{F F0:aC}{w:World}(h:SR P H F w)(h0:BH F0 P.globals.size):SR P (xM P.globals.size F0 H.ro) F0 w:=
 Nb h0.1 (λid o d=>by obtain⟨c,rfl,e,b⟩:=h0.2 id o d;exact⟨b,c,rfl,(h.tabs _ e).at h⟩) h.jH (λp f=>by obtain⟨g,a,i,j,k⟩:=h.tabs p f;exact⟨g,a,i,j,k⟩)
def BH.own{F0:aC}{n:Nat}(h:BH F0 n):∀id o,F0.get id=some o->o.own=false:=by intro id o a;obtain⟨c,rfl,_⟩:=h.2 id o a;rfl
def Ll:eU:=λargs F=>match args with
 |[]=>some (.b true,F)
 |_=>none
def azE{call:Caller}{f:FuncId}{F0 F':aC}(a:uD P call)(h0:BH F0 P.globals.size)(b:call f [] F0=some (.b true,F')):eG P f Ll:=by
 intro args F r i c H w j e g;unfold Ll at c;split at c
 ·cases c;simp only[aG]at g;subst g;refine nH.mono (a f [] F0 _ _ b _ w [] (e.YI h0) rfl) ?_;rintro v k ⟨l,d,h⟩
  refine⟨H,St.acg e (d.kept h0.own),?_⟩;simp only[VR]at h⊢;exact h
 ·cases c
def VR.ground{H H':Env}{a:AV}{v:Value}(d:a.under 0=true)(h:VR H a v)(c:∀b o,H.ro b=some o->H'.ro b=some o):VR H' a v:=
 VR.mono (H:=H.cut 0) ⟨λid q e=>by simp[Env.cut]at e,c,λid f=>by simp[Env.cut]at f⟩ a v (VR.cut a v d h)
def aG.ground{H H':Env}{l:Q3}{vs:Q6}(c:AV.rX 0 l=true)(h:aG H l vs)(a:∀b o,H.ro b=some o->H'.ro b=some o):aG H' l vs:=
 aG.mono (H:=H.cut 0) ⟨λid q d=>by simp[Env.cut]at d,a,λid e=>by simp[Env.cut]at e⟩ l vs (aG.cut l vs c h)
def grp(agg:Bool)(size:Nat):Nat->List AV->List AV
 |0,_=>[]
 |n+1,cs=>(if agg then .agg (cs.take size)else cs.headD .kL)::grp agg size n (cs.drop size)
def J4(agg:Bool)(size:Nat):Nat->List Value->List Value
 |0,_=>[]
 |n+1,cs=>(if agg then .agg ⟨cs.take size⟩else cs.headD undef)::J4 agg size n (cs.drop size)
def aa2(agg:Bool)(size:Nat):∀(n:Nat)(l:Q3),(grp agg size n l).length=n
 |0,_=>rfl
 |n+1,l=>by simp[grp,aa2 agg size n]
def ail{H:Env}{agg:Bool}{size:Nat}(h1:agg=false->size=1):∀(n:Nat)(l:Q3)(xs:Q6),aG H l xs->l.length=n*size->l.all AV.qp=true->
 aG H (grp agg size n l) (J4 agg size n xs)/\(∀x∈J4 agg size n xs,x.cells.size=size)/\eX (J4 agg size n xs)=xs
 |0,l,xs,c,g,_=>by
  have:xs=[]:=by apply kP;rw[<-c.length,g];exact Nat.zero_mul _
  subst this;simp[grp,J4,aG,eX]
 |n+1,l,xs,c,g,b=>by
  have e:=c.length;rw[uK,Jo]at g;have d:=ail h1 n (l.drop size) (xs.drop size) (c.drop size) (by simp;omega) (by rw[List.all_eq_true]at b⊢;exact λa h=>b a (MO h))
  cases agg with
  |true=>
   simp only[grp,J4,if_true];refine⟨aG.cons (by simp only[VR];exact⟨_,rfl,c.take size⟩) d.1,?_,?_⟩
   ·intro x i;rcases bH.1 i with rfl|i
    ·have:=e;simp[Value.cells];try omega
    ·exact d.2.1 x i
   ·have:=d.2.2;simp only[eX,kY]at this⊢;rw[this];simp[Value.cells]
  |false=>
   have o:=h1 rfl;subst o;cases l with
   |nil=>simp at g
   |cons a l=>
    simp only[aG]at c;obtain⟨x,p,rfl,m,q⟩:=c;have h:=List.all_eq_true.1 b a aA;have j:=acj m h;have f:x.cells =#[x]:=by cases x<;>simp[sW]at j<;>rfl
    simp only[grp,J4,iI,if_false,List.headD_cons];simp only[Zc,dY]at d⊢;refine⟨aG.cons m d.1,?_,?_⟩
    ·intro y k;rcases bH.1 k with rfl|k
     ·rw[f];rfl
     ·exact d.2.1 y k
    ·have:=d.2.2;simp only[eX,kY]at this⊢;rw[this,f];rfl
def vK(P:Program)(F:aC):Nat->AV->Option AV
 |0,_=>none
 |n+1,a=>
  match a with
  |.sl id off len _=>
   if len=0 then some (.ro [])else
   match F.get id with
   |some (.cells c et true _)=>
    match sizeT P et,qw P et with
    |some size,some agg=>
     if(agg=true/\0<size)\/size=1 then
      match takeN c off (len*size)with
      |some cs=>match xg (vK P F n) cs with
       |some b=>if b.all AV.qp then some (.ro (grp agg size len b))else none
       |none=>none
      |none=>none
     else none
    |_,_=>none
   |_=>none
  |.iw=>some (.ro [])
  |.agg l=>(xg (vK P F n) l).map .agg
  |.fK l=>(xg (vK P F n) l).map .fK
  |.jM t x=>(vK P F n x).map (.jM t)
  |a=>if a.under 0 then some a else none
def azu{H H':Env}{f:AV->Option AV}(i:∀a r v,f a=some r->VR H a v->VR H' r v){l r:Q3}{vs:Q6}(h:xg f l=some r)(d:aG H l vs):aG H' r vs:=by
 obtain⟨j,m⟩:=OD h;refine aG.of (by rw[<-j];exact d.length) λk a e=>?_;have b:k<l.length:=by have:=(gy.1 e).1;omega
 obtain⟨y,g,c⟩:=m k _ (cO b);rw[e]at g;cases g;obtain⟨x,n,o⟩:=d.at (cO b);exact⟨x,n,i _ _ _ c o⟩
def au4{H H':Env}{F:aC}{w:World}{N:Nat}(h:SR P H F w)(s:∀id o q,F.get id=some o->o.own=true->H id=some q->N<=q.bl)
 (L:∀b o,H.ro b=some o->H'.ro b=some o) (t:∀b o,N<=b->w.heap[b]? =some o->H'.ro b=some o):∀(n:Nat)(a r:AV)(v:Value),vK P F n a=some r->VR H a v->VR H' r v:=by
 intro n;induction n with
 |zero=>intro a r v d;simp[vK]at d
 |succ n U=>
  intro a r v d f;have j:∀(l r:Q3)(m:Q6),xg (vK P F n) l=some r->aG H l m->aG H' r m:=λl r m h1 h2=>azu U h1 h2;unfold vK at d;split at d
  ·next id M len aa=>
   simp only[VR]at f;obtain⟨q,V,O,rfl⟩:=f;split at d
   ·next W=>cases d;subst W;exact Tf
   ·next W=>
    split at d
    ·next c et ab X=>
     split at d
     ·next g Q hs ha=>
      split at d
      ·next R=>
       split at d
       ·next cs p=>
        split at d
        ·next ds u=>
         split at d
         ·next z=>
          cases d;obtain⟨q',A,ws,B,fr,hb,Y⟩:=h.obj _ _ X rfl;rw[V]at A;cases A;have i:=j _ _ _ u (Y.Bd p);have D:=(vg p).2.1;have E:=(OD u).1;have G:Q=false->g=1:=λe=>R.elim (λh=>absurd (h.1.symm.trans e) aA) (λh=>h);obtain⟨g1,g2,g3⟩:=ail G len ds _ i (by rw[<-E,D]) z;have Z:=Y.take p;have S:=i.length;simp only[VR];right;refine⟨q.bl,q.ba+M,_,_,g,by rw[aa2],by rw[aa2];exact O,g1,g2,λ_=>⟨ws,B,fr,t _ _ (s id _ q X rfl V) hb,?_,?_⟩⟩
          ·rw[g3];rw[<-S,<-E,D];have:0<len*g:=P6 ah ah;omega
          ·rw[g3];intro k x I;rw[oh]at I;split at I
           ·rw[uJ,yA]at I;exact I
           ·cases I
         ·cases d
        ·cases d
       ·cases d
      ·cases d
     ·cases d
    ·cases d
  ·cases d;simp only[VR]at f⊢;exact .inl ⟨trivial,_,f⟩
  ·simp only[bI]at d;obtain⟨l',T,rfl⟩:=d;simp only[VR]at f⊢;obtain⟨m,rfl,f⟩:=f;exact⟨m,rfl,j _ _ _ T f⟩
  ·simp only[bI]at d;obtain⟨l',T,rfl⟩:=d;simp only[VR]at f⊢;obtain⟨m,rfl,f⟩:=f;exact⟨m,rfl,j _ _ _ T f⟩
  ·simp only[bI]at d;obtain⟨x',hx,rfl⟩:=d;simp only[VR]at f⊢;obtain⟨y,rfl,f⟩:=f;exact⟨y,rfl,U _ _ _ hx f⟩
  ·split at d
   ·next hu=>cases d;exact VR.ground hu f L
   ·cases d
structure Base where
 w:World
 hole:Nat->Prop
 anch:Nat->Option Place
structure Uj(b:Base)(W':World):Prop where
 os:W'.os=b.w.os
 tape:W'.tape=b.w.tape
 output:W'.output=b.w.output
 size:b.w.heap.size<=W'.heap.size
 keep:∀bl,bl<b.w.heap.size->¬b.hole bl->W'.heap[bl]? =b.w.heap[bl]?
def Base.shut(w:World):Base:=⟨w,λ_=>False,λ_=>none⟩
structure lF(P:Program)(w0:Base)(fD:Qf)(H:Env)(F:aC)(w:World):Prop where
 rel:SR P H F w
 kept:Uj w0 w
 own:∀id o q,F.get id=some o->o.own=true->H id=some q->w0.w.heap.size<=q.bl\/w0.hole q.bl
 xq:∀b o,fD b=some o->H.ro b=some o
 tC:∀b,H.ro b≠none->fD b≠none\/w0.w.heap.size<=b\/w0.hole b
 uO:∀i q,w0.anch i=some q->H i=some q/\P.globals.size<i/\i<=P.globals.size+iM.ka
def Kept.refl(w:World):Kept w w:=⟨rfl,rfl,rfl,dP _,λ_ _=>rfl⟩
def lF.start{H:Env}{F:aC}{w:World}(h:SR P H F w)(a:∀id o,F.get id=some o->o.own=false):lF P (.shut w) H.ro H F w:=
 ⟨h,⟨rfl,rfl,rfl,dP _,λ_ _ _=>rfl⟩,λid o q c b=>(by rw[a id o c]at b;cases b),λ_ _ h=>h,λ_ h=>.inl h,λ_ _ h=>by cases h⟩
def Uj.shut{w w':World}(h:Uj (.shut w) w'):Kept w w':=⟨h.os,h.tape,h.output,h.size,λa b=>h.keep a b (λe=>e)⟩
def lF.azA{w:World}{d:Qf}{H:Env}{F:aC}{w':World}(h:lF P (.shut w) d H F w'):∀id o q,F.get id=some o->o.own=true->H id=some q->w.heap.size<=q.bl:=by
 intro id o q a b c;rcases h.own id o q a b c with h1|h1
 ·exact h1
 ·cases h1
def lF.alL{w:World}{a:Qf}{H:Env}{F:aC}{w':World}(h:lF P (.shut w) a H F w'):∀b,H.ro b≠none->a b≠none\/w.heap.size<=b:=by
 intro b c;rcases h.tC b c with h1|h1|h1
 ·exact .inl h1
 ·exact .inr h1
 ·cases h1
def lF.step{w0:Base}{l:Qf}{H H':Env}{F F':aC}{w w':World}(h:lF P w0 l H F w)(p:F.lock=0)(k:St P H F w H' F' w'):lF P w0 l H' F' w':=by
 refine⟨k.rel,⟨k.os.trans h.kept.os,k.tape.trans h.kept.tape,k.output.trans h.kept.output,kZ h.kept.size k.size,λm c n=>?_⟩,λid o q h1 r s=>?_,λb o c=>k.ext.ro b o (h.xq b o c),λb c=>?_,λi q hi=>⟨k.ext.pl _ _ (h.uO i q hi).1,(h.uO i q hi).2⟩⟩
 ·rw[k.keep m (zI c h.kept.size) (λid o q f t _ u=>by
   rcases h.own id o q f t u with h1|h1
   ·omega
   ·intro e;rw[e]at h1;exact n h1)]
  exact h.kept.keep m c n
 ·rcases k.own id o q h1 r (by rw[p];exact vG _) s with v|⟨g,o0,j,a,b,_,d,e⟩
  ·exact .inl (kZ h.kept.size v)
  ·rw[<-e];exact h.own g o0 j a b d
 ·rcases k.tC b c with h1|h1|⟨g,o0,j,f,x,z,d1,y⟩
  ·exact h.tC b h1
  ·exact .inr (.inl (kZ h.kept.size h1))
  ·right;rw[<-y];exact h.own g o0 j f x d1
def Fn(P:Program)(f:FuncId)(args:Q3)(R:AV->Prop):Prop:=∀H F w a,SR P H F w->aG H args a->nH P f ⟨a⟩ w λv c=>∃b r,R r/\St P H F w b F c/\VR b r v
def lF.freeze{H H1:Env}{F s:aC}{w w1:World}(d:SR P H F w)(h:lF P (.shut w) H.ro H1 s w1){n:Nat}{r i:AV}{v:Value}(z:vK P s n r=some i)(A:VR H1 r v):
 ∃H',St P H F w H' F w1/\VR H' i v:=by
 let e:Nat->Option Obj:=λb=>if b<w.heap.size then H.ro b else w1.heap[b]?
 have j:∀b o,H.ro b=some o->b<w.heap.size:=λb o a=>xP (d.jH b o a);have f:(H:Env).le ⟨H.pl,e,H.gh⟩:=⟨λ_ _ h=>h,λb o a=>by show(if _ then _ else _)=_;rw[au (j b o a)];exact a,λ_ h=>h⟩
 have k:∀b o,H1.ro b=some o->e b=some o:=by
  intro b o a;show(if _ then _ else _)=_
  split
  ·next B=>
   rcases h.alL b (by rw[a];simp)with h1|h1
   ·cases t:H.ro b with
    |none=>exact absurd t h1
    |some D=>have:=h.xq b D t;rw[a]at this;exact this.symm
   ·omega
  ·exact h.rel.jH b o a
 refine⟨⟨H.pl,e,H.gh⟩,?_,au4 (N:=w.heap.size) h.rel h.azA k (λb o a l=>by show(if _ then _ else _)=_;rw[aj ah];exact l) n r i v z A⟩;have g:=h.kept.shut;refine⟨f,⟨d.oN,d.dom,λid o l=>?_,d.lq,d.sep,λb o a=>?_,λid o q u E x=>?_,λp G=>(d.tabs p G).mono f⟩,g.size,λI a _=>g.keep I a,λid o q h1 L M O=>.inr ⟨id,o,q,h1,L,M,O,rfl⟩,g.os,g.tape,g.output,rfl,dP _,λ_ h=>.inl h,λb a=>?_⟩
 ·exact((d.live id o l).heap λq _ m=>g.keep _ m.lt).mono f
 ·have c:(if b<w.heap.size then H.ro b else w1.heap[b]?)=some o:=a;split at c
  ·next y=>rw[g.keep b y];exact d.jH b o c
  ·exact c
 ·have m:=d.at u (show H id=some q from x);show(if q.bl<w.heap.size then H.ro q.bl else w1.heap[q.bl]?)=none
  rw[au m.lt];exact d.ny id o q u E x
 ·have c:(if b<w.heap.size then H.ro b else w1.heap[b]?)≠none:=a;split at c
  ·exact .inl c
  ·next y=>right;left;omega
def Fn.acf{call:Caller}{f:FuncId}{F0 F':aC}{args:Q3}{r d:AV}(a:uD P call)(h0:BH F0 P.globals.size)(i:F0.lock=0)(j:AV.rX 0 args=true)(b:call f args F0=some (r,F'))(n:Nat)(k:vK P F' n r=some d):Fn P f args (· =d):=by
 intro H F w l g m;have c:=g.YI h0;refine nH.mono (a f args F0 _ _ b _ w l c (aG.ground j m (λ_ _ h=>h))) ?_;rintro v u ⟨x,e,o⟩
 have p:=(lF.start c h0.own).step i e;obtain⟨q,s,t⟩:=p.freeze (H:=H) g k o;exact⟨q,d,rfl,s,t⟩
def eG.azl{f:FuncId}{g:Q3->Option AV}(h:∀args r,g args=some r->Fn P f args (· =r)):eG P f λargs F=>(g args).map (·,F):=by
 intro args F r F' a H w b c d;simp only[bI,qI]at a;obtain⟨r0,e,rfl,rfl⟩:=a;refine nH.mono (h args r0 e H F w b c d) ?_;rintro v l ⟨i,r,rfl,j,k⟩
 exact⟨i,j,k⟩
