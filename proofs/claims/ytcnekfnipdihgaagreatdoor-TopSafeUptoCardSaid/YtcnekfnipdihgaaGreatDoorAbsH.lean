/- Functions without a Go body: what the model does at them, for the evaluator. -/
import Derived.Test.YtcnekfnipdihgaaGreatDoorAbsG
import Derived.Laws.Externs
import Derived.Lib.LaidU8
import Derived.ChangeSame
set_option linter.all false
namespace Go.aP
noncomputable section
variable[aJ]
variable{P:Program}{F:Env}{J J':aC}{w:World}
abbrev dV:=Q6->aC->Option (AV×aC)
abbrev W4:=List (FuncId×dV)
def dP(P:Program)(f:FuncId)(g:dV):Prop:=∀args J r J',g args J=some (r,J')->∀F w a,SR P F J w->aG F args a->
 lY P f ⟨a⟩ w λv c=>∃b,St P F J w b J' c/\VR b r v
def TA:W4->Tr dV
 |[]=>.nil
 |(k,g)::l=>(TA l).set k (some g)
def ac3(l:W4):yY:=(TA l).get
def amv:∀{l:W4}{f:FuncId}{g:dV},(TA l).get f=some g->(f,g)∈l
 |[],f,g,h=>by simp[TA]at h
 |(k,u)::l,f,g,h=>by
  rw[TA,Tr.wE]at h;split at h
  ·next e=>cases h;subst e;simp
  ·exact yU _ (amv h)
def akS{l:W4}(h:∀p∈l,dP P p.1 p.2):Un P (ac3 l):=λf g a=>h (f,g) (amv a)
structure Ext(P:Program)(f:FuncId)(e:W2->Sem Value):Prop where
 call:∀args w,(callFunc f args).run P w=((e args).run P w).andThen λv w'=>.ok (.value v) w'
def Ext.mk'{f:FuncId}{fn:Func}{e:W2->Sem Value}(b:P.funcs[f]? =some fn)(a:(fn.name == "runtime.NumGoroutine")=false)
 (c:fn.body.isNone=true) (d:Extern.findNext fn=none) (g:Extern.find fn=some e):Ext P f e:=⟨λargs w=>run_callFunc_extern b a c d g args w⟩
def Ext.zf{f:FuncId}{e:W2->Sem Value}(h:Ext P f e){args:W2}{R:Value->World->Prop}(a:∃v w',(e args).run P w=.ok v w'/\R v w'):lY P f args w R:=by obtain⟨v,w',b,c⟩:=a;exact .inl ⟨v,w',by rw[h.call,b];rfl,c⟩
def SB:dV:=λl J=>match l with|[x]=>some (x,J)|_=>none
def akd{f:FuncId}(h:Ext P f Extern.AbiNoEscape.same):dP P f SB:=by
 intro args J r J' a F w e c b;unfold SB at a;split at a
 ·cases a;simp only[aG]at b;obtain⟨x,_,rfl,d,rfl⟩:=b;exact h.zf ⟨x,w,rfl,F,St.refl c,d⟩
 ·cases a
def aad(a b:Q2):Int:=Extern.BytealgCompare.cmp ⟨⟨a⟩⟩ ⟨⟨b⟩⟩
def acd:dV:=λl J=>match l with|[.s a,.s b]=>some (.i .i64 (aad a b),J)|_=>none
def ayB{f:FuncId}(h:Ext P f Extern.BytealgCompare.compare):dP P f acd:=by
 intro args J r J' a F w d c b;unfold acd at a;split at a
 ·cases a;simp only[aG,VR]at b;obtain⟨x,_,rfl,rfl,y,_,rfl,rfl,rfl⟩:=b;refine h.zf ⟨_,w,rfl,F,St.refl c,by simp only[VR];rfl⟩
 ·cases a
def countB(a:Q2)(c:Int):Int:=(⟨⟨a⟩⟩:ByteArray).foldl (λ(n:Int) x=>if x==c.toNat.toUInt8 then n+1 else n) ((0:Nat):Int)
def ace:dV:=λl J=>match l with|[.s a,.i .u8 c]=>some (.i .i64 (countB a c),J)|_=>none
def ayC{f:FuncId}(h:Ext P f Extern.BytealgCount.count):dP P f ace:=by
 intro args J r J' a F w d c b;unfold ace at a;split at a
 ·cases a;simp only[aG,VR]at b;obtain⟨x,_,rfl,rfl,y,_,rfl,rfl,rfl⟩:=b;refine h.zf ⟨_,w,rfl,F,St.refl c,by simp only[VR];rfl⟩
 ·cases a
def indexB(a:Q2)(c:Int):W3:=(List.range (⟨⟨a⟩⟩:ByteArray).size).find? λi=>(⟨⟨a⟩⟩:ByteArray)[i]! ==c.toNat.toUInt8
def acf:dV:=λl J=>match l with
 |[.s a,.i .u8 c]=>match indexB a c with
  |some i=>some (.i .i64 i,J)
  |none=>some (.i .i64 (-1),J)
 |_=>none
def ayE{f:FuncId}(h:Ext P f Extern.BytealgIndexByte.indexByte):dP P f acf:=by
 intro args J r J' d F w j e g;unfold acf at d;split at d
 ·next a c=>
  simp only[aG,VR]at g;obtain⟨x,_,rfl,rfl,y,_,rfl,rfl,rfl⟩:=g;split at d
  ·next i hi=>
   cases d;refine h.zf ⟨.int .i64 i,w,?_,F,St.refl e,by simp only[VR]⟩;have b:((List.range (⟨⟨a⟩⟩:ByteArray).size).find? λi=>(⟨⟨a⟩⟩:ByteArray)[i]! ==c.toNat.toUInt8)=some i:=hi;show(match(List.range (⟨⟨a⟩⟩:ByteArray).size).find? (λi=>(⟨⟨a⟩⟩:ByteArray)[i]! ==c.toNat.toUInt8)with|some i=>(pure (goInt i):Sem Value)|none=>pure (goInt (-1))).run P w=_
   rw[b];rfl
  ·next hi=>
   cases d;refine h.zf ⟨.int .i64 (-1),w,?_,F,St.refl e,by simp only[VR]⟩;have b:((List.range (⟨⟨a⟩⟩:ByteArray).size).find? λi=>(⟨⟨a⟩⟩:ByteArray)[i]! ==c.toNat.toUInt8)=none:=hi;show(match(List.range (⟨⟨a⟩⟩:ByteArray).size).find? (λi=>(⟨⟨a⟩⟩:ByteArray)[i]! ==c.toNat.toUInt8)with|some i=>(pure (goInt i):Sem Value)|none=>pure (goInt (-1))).run P w=_
   rw[b];rfl
 ·cases d
def ab9:dV:=λl J=>match l with
 |[.i .u64 x,.i .u64 y,.i .u64 c]=>if 0<=x/\0<=y/\0<=c/\c<=1 then some (.fG [.i .u64 ((x+y+c)%18446744073709551616),.i .u64 ((x+y+c)/18446744073709551616)],J)else none
 |_=>none
def ayx{f:FuncId}(h:Ext P f add64Entry):dP P f ab9:=by
 intro args J r J' a F w m e d;unfold ab9 at a;split at a
 ·next x y c=>
  split at a
  ·next g=>
   cases a;obtain⟨i,j,k,l⟩:=g;simp only[aG,VR]at d;obtain⟨_,_,rfl,rfl,_,_,rfl,rfl,_,_,rfl,rfl,rfl⟩:=d;have b:=run_add64 (P:=P) x y c i j k l w;refine h.zf ⟨_,w,b,F,St.refl e,?_⟩;simp only[VR];refine⟨_,rfl,aG.cons ?_ (aG.cons ?_ (by simp[aG]))⟩<;>simp only[VR]<;>congr 1
  ·cases a
 ·cases a
def aco(P:Program):dV:=λl J=>match l with
 |[.jE t a]=>match rV P (Extern.Rtype.kind t)with
  |some k=>some (.agg [.p P.globals.size t,.p J.next 0,.i .u64 ((k+128:Nat):Int)],J.new (.cells a.cells t true false))
  |none=>none
 |_=>none
def ah4(h:SR P F J w)(t:TypeId):VR F (.p P.globals.size t) (typeHandle P t):=by obtain⟨b,es,a⟩:=h.nR P.globals.size (dK _);simp only[VR];exact⟨_,a,by simp[typeHandle]⟩
def ayK{f:FuncId}(h:Ext P f (λargs=>Extern.ReflectliteValue.unpack (args.getD 0 (.tuple #[])))):dP P f (aco P):=by
 intro args J r J' b F w z n i;unfold aco at b;split at b
 ·next t a=>
  split at b
  ·next k o=>
   cases b;simp only[aG,VR]at i;obtain⟨_,_,rfl,⟨x,rfl,p⟩,rfl⟩:=i;obtain⟨y,d,s,c,j,l⟩:=afF (t:=t) n p;simp only[VR]at l;obtain⟨q,u,rfl⟩:=l;have g:(newVar t x).run P w=.ok ⟨q.bl,q.ba+0,none⟩ d:=by
    simp only[Instr.box,aY]at c;cases m:(newVar t x).run P w with
    |ok A v=>rw[m]at c;simp only[aX,bP,Result.ok.injEq,Value.pointer.injEq,bf]at c;obtain⟨rfl,rfl⟩:=c;rfl
    |halt e v=>rw[m]at c;simp at c
   refine h.zf ⟨.agg #[typeHandle P t,.pointer (some ⟨q.bl,q.ba+0,none⟩),.int .u64 ((k+128:Nat):Int)],d,?_,s,j,?_⟩
   ·show(Extern.ReflectliteValue.unpack (.iface t x)).run P w=_
    simp only[Extern.ReflectliteValue.unpack,Extern.ReflectliteValue.mk,aY,g,aX,Extern.Rtype.handle,program,Sem.run,bP,Dy o d];rfl
   ·simp only[VR];exact⟨_,rfl,aG.cons (by simpa only[VR]using ah4 j.rel t) (aG.cons (by simp only[VR];exact⟨q,u,rfl⟩) (aG.cons (by simp only[VR]) (by simp[aG])))⟩
  ·cases b
 ·cases b
def acg(P:Program):dV:=λl J=>match l with
 |[.agg [.p g t,.p id a,.i .u64 f]]=>
  if g=P.globals.size/\0<f/\f.toNat%32=23 then
   match rV P (Extern.Rtype.noPack "a Value asked or handed on" t),rV P (Extern.Rtype.under t),yj P t J (.p id a)with
   |some _,some (_,i),some v=>match i.desc with
    |.slice _=>(Uy P J t v).map λn=>(n,J)
    |_=>none
   |_,_,_=>none
  else none
 |_=>none
def ah7(t:TypeId){id:Nat}{x:Value}(b:SR P F J w)(c:id=P.globals.size)(h:VR F (.p id t) x):x=typeHandle P t:=by subst c;obtain⟨e,es,d⟩:=b.nR P.globals.size (dK _);simp only[VR]at h;obtain⟨q,a,rfl⟩:=h;rw[d]at a;cases a;simp[typeHandle]
def ab1(t:TypeId):(Extern.Rtype.ofHandle (typeHandle P t)).run P w=.ok t w:=by simp[Extern.Rtype.ofHandle,handleType,typeHandle,program,Sem.run]
def ayF{f:FuncId}(h:Ext P f (Extern.ReflectliteValue.method (Extern.ReflectliteValue.valueError "reflectlite.Value.Len" 0) Extern.ReflectliteValue.len)):dP P f (acg P):=by
 intro args J r J' d F w vs A G;unfold acg at d;split at d
 ·next g t id b c=>
  split at d
  ·next I=>
   obtain⟨L,H,M⟩:=I;split at d
   ·next u u2 i v N O Q=>
    split at d
    ·next e B=>
     simp only[bG,pU]at d;obtain⟨n,R,rfl,rfl⟩:=d;simp only[aG]at G;obtain⟨_,_,rfl,o,rfl⟩:=G;rw[VR]at o;obtain⟨ws,rfl,o⟩:=o;simp only[aG]at o;obtain⟨a1,_,rfl,D,a2,_,rfl,k,a3,_,rfl,p,rfl⟩:=o;have S:=ah7 t A L D;subst S;obtain⟨y,T,U⟩:=Hu A Q k;simp only[VR]at k p;obtain⟨q,hq,rfl⟩:=k;subst p;obtain⟨z,W,X⟩:=ai6 (ts:=#[t]) (ty:=0) A rfl R U;refine h.zf ⟨z,w,?_,F,St.refl A,X⟩;have Y:c≠0:=ah;have j:(Extern.ReflectliteValue.parts (.agg #[typeHandle P t,.pointer (some ⟨q.bl,q.ba+b,none⟩),.int .u64 c])).run P w=.ok (some (t,⟨q.bl,q.ba+b,none⟩,c.toNat)) w:=by
      have s:(Extern.ReflectliteValue.partsAny (.agg #[typeHandle P t,.pointer (some ⟨q.bl,q.ba+b,none⟩),.int .u64 c])).run P w=.ok (some (t,⟨q.bl,q.ba+b,none⟩,c.toNat)) w:=by
       have B:Extern.ReflectliteValue.partsAny (.agg #[typeHandle P t,.pointer (some ⟨q.bl,q.ba+b,none⟩),.int .u64 c])=(do pure (some (<-Extern.Rtype.ofHandle (typeHandle P t),⟨q.bl,q.ba+b,none⟩,c.toNat))):=by
        obtain⟨m,rfl⟩:∃m:Nat,c=((m+1:Nat):Int):=⟨c.toNat-1,ah⟩
        rfl
       rw[B];simp only[aY,ab1,aX,bP]
      unfold Extern.ReflectliteValue.parts;simp only[aY,s,aX,Dy N w,bP]
     have x:(Extern.ReflectliteValue.len t ⟨q.bl,q.ba+b,none⟩ c.toNat (c.toNat%32)).run P w=.ok z w:=by
      unfold Extern.ReflectliteValue.len;have E:(loadVar t ⟨q.bl,q.ba+b,none⟩).run P w=.ok y w:=by simpa[Instr.loadAt,Instr.sureAddr]using T
      rw[M];have l:(!([17,18,21,23,24]:Q4).contains 23)=false:=rfl;simp only[l,iJ,if_false,aY,Dy O w,aX,B,E,W]
     show(Extern.ReflectliteValue.method _ _ #[_]).run P w=_
     have Z:Extern.ReflectliteValue.method (Extern.ReflectliteValue.valueError "reflectlite.Value.Len" 0) Extern.ReflectliteValue.len #[.agg #[typeHandle P t,.pointer (some ⟨q.bl,q.ba+b,none⟩),.int .u64 c]]=(do
      match <-Extern.ReflectliteValue.parts (.agg #[typeHandle P t,.pointer (some ⟨q.bl,q.ba+b,none⟩),.int .u64 c])with
      |none=>Extern.ReflectliteValue.valueError "reflectlite.Value.Len" 0
      |some (t,a,c)=>Extern.ReflectliteValue.len t a c (c%32)):=rfl
     rw[Z];simp only[aY,j,aX];exact x
    ·cases d
   ·cases d
  ·cases d
 ·cases d
def ai4:AV->Option Nat
 |.gX=>some 0
 |.sl _ _ n _=>some n
 |_=>none
def Tq:K0->Nat->Option FuncId
 |[],_=>none
 |(j,f)::l,k=>bif Nat.beq k j then some f else Tq l k
def ama:∀{a:K0}{k:Nat}{f:FuncId},Tq a k=some f->(k,f)∈a
 |[],k,f,h=>by simp[Tq]at h
 |(j,g)::l,k,f,h=>by
  unfold Tq at h;cases b:Nat.beq k j with
  |true=>rw[b]at h;cases h;rw[bQ b];exact PD
  |false=>rw[b]at h;exact yU _ (ama h)
def ae2(P:Program)(a:K0):Prop:=∀p∈a,P.funcs.findIdx? (·.name == "internal/reflectlite" ++ ".Swapper$" ++toString p.1)=some p.2
def acn(P:Program)(a:K0):dV:=λl J=>match l with
 |[.jE t s]=>
  match rV P (Extern.Rtype.elem? t)with
  |some (some e)=>
   match ai4 s,P.info? e,rV P (Extern.Rtype.kind e)with
   |some n,some i,some b=>
    let k:Nat:=
     if n==0 then 1 else if n==1 then 2
     else if i.hasPointers&&i.bytes==8 then 3
     else if i.hasPointers&&(b==24)then 4
     else if i.hasPointers then 9
     else match i.bytes with|8=>5|4=>6|2=>7|1=>8|_=>9
    match Tq a k with
    |some f=>some (.fn f [] (if k<=2 then[]else[s,.p P.globals.size e]),J)
    |none=>none
   |_,_,_=>none
  |_=>none
 |_=>none
def aEi(c:String)(a:Nat->Sem Value)(t:TypeId)(s:Value):Extern.ReflectliteSwapper.swapper c a #[.iface t s]=(do
 let(.slice _ n _,some e):=(s,<-Extern.Rtype.elem? t)|a (<-Extern.Rtype.kind t)
 let i <-typeInfo e
 let b:=(<-Extern.Rtype.kind e)==24
 let k:Nat:=
  if n==0 then 1 else if n==1 then 2
  else if i.hasPointers&&i.bytes==8 then 3
  else if i.hasPointers&&b then 4
  else if i.hasPointers then 9
  else match i.bytes with|8=>5|4=>6|2=>7|1=>8|_=>9
 let h <-Extern.Rtype.handle e
 Extern.ReflectliteSwapper.literal c k (if k<=2 then #[]else #[s,h])):=rfl
def ayJ{f:FuncId}(h:Ext P f (Extern.ReflectliteSwapper.swapper "internal/reflectlite" (Extern.ReflectliteValue.valueError "Swapper"))){g:K0}(j:ae2 P g):dP P f (acn P g):=by
 intro args J r J' b F w G u v;unfold acn at b;split at b
 ·next t s=>
  split at b
  ·next e z=>
   split at b
   ·next n i A m hi B=>
    simp only at b;split at b
    ·next D d=>
     cases b;simp only[aG,VR]at v;obtain⟨_,_,rfl,⟨x,rfl,l⟩,rfl⟩:=v;have o:∃a c,x=.slice a n c:=by
      cases s<;>simp[ai4]at m
      ·subst m;simp only[VR]at l;exact⟨_,_,l⟩
      ·subst m;simp only[VR]at l;obtain⟨q,_,_,rfl⟩:=l;exact⟨_,_,rfl⟩
     obtain⟨a,c,rfl⟩:=o;generalize p:(if(n==0)=true then 1 else if(n==1)=true then 2 else if(i.hasPointers&&i.bytes==8)=true then 3 else if(i.hasPointers&&(A==24))=true then 4 else if i.hasPointers=true then 9 else match i.bytes with|8=>5|4=>6|2=>7|1=>8|_=>9:Nat)=k at *;have d:=j _ (ama d);refine h.zf ⟨.func (.func D) #[] (if k<=2 then #[]else #[.slice a n c,typeHandle P e]),w,?_,F,St.refl u,?_⟩
     ·show(Extern.ReflectliteSwapper.swapper "internal/reflectlite" _ #[.iface t (.slice a n c)]).run P w=_
      have E:=aEi "internal/reflectlite" (Extern.ReflectliteValue.valueError "Swapper") t (.slice a n c);rw[E];simp only[aY,Dy z w,aX,Ie hi,Dy B w,Extern.Rtype.handle,program,Sem.run,bP,p,Extern.ReflectliteSwapper.literal,d]
     ·simp only[VR];by_cases y:k<=2
      ·simp only[y,if_true];exact⟨[],[],rfl,by simp[aG],by simp[aG]⟩
      ·simp only[y,if_false];exact⟨[],[_,_],rfl,by simp[aG],aG.cons l (aG.cons (ah4 u e) (by simp[aG]))⟩
    ·cases b
   ·cases b
  ·cases b
 ·cases b
def EY(P:Program):dV:=λl J=>match l with
 |[.i .i64 i,.i .i64 j,.sl id b n c,.p g e]=>
  if g=P.globals.size/\0<=i/\i<n/\0<=j/\j<n then
   match sizeT P e with
   |some a=>
    match yj P e J (.p id (b+i.toNat*a)),yj P e J (.p id (b+j.toNat*a))with
    |some x,some y=>match Gi P e J (.p id (b+i.toNat*a)) y with
     |some d=>match Gi P e d (.p id (b+j.toNat*a)) x with
      |some f=>some (.fG [],f)
      |none=>none
     |none=>none
    |_,_=>none
   |none=>none
  else none
 |_=>none
def ai8{t:TypeId}{b:Bool}{a:Addr}{y:Value}(h:(Instr.loadAt t (.pointer (some a))).run P w=.ok y w):(loadVar t a).run P w=.ok y w:=by simpa[Instr.loadAt,Instr.sureAddr]using h
def al6{t:TypeId}{a:Addr}{y:Value}{w':World}(h:(Instr.storeAt t (.pointer (some a)) y).run P w=.ok () w'):(storeVar t a y).run P w=.ok () w':=by simpa[Instr.storeAt,Instr.sureAddr]using h
def KN{f:FuncId}{b:Bool}(h:Ext P f (Extern.ReflectliteSwapper.swap b)):dP P f (EY P):=by
 intro args J r J' k F w vs s L;unfold EY at k;split at k
 ·next i j id a n U g e=>
  split at k
  ·next W=>
   obtain⟨X,Y,Z,aa,ab⟩:=W;split at k
   ·next d t=>
    split at k
    ·next x y hx hy=>
     split at k
     ·next J1 v=>
      split at k
      ·next J2 z=>
       cases k;simp only[aG]at L;obtain⟨v1,_,rfl,M,v2,_,rfl,N,v3,_,rfl,O,v4,_,rfl,h4,rfl⟩:=L;have e4:=ah7 e s X h4;subst e4;simp only[VR]at M N O;subst M;subst N;obtain⟨q,Q,ac,rfl⟩:=O;have R:VR F (.p id (a+i.toNat*d)) (.pointer (some ⟨q.bl,q.ba+(a+i.toNat*d),none⟩)):=by simp only[VR];exact⟨q,Q,rfl⟩
       have S:VR F (.p id (a+j.toNat*d)) (.pointer (some ⟨q.bl,q.ba+(a+j.toNat*d),none⟩)):=by simp only[VR];exact⟨q,Q,rfl⟩
       obtain⟨u,hu,A⟩:=Hu s hx R;obtain⟨u',B,D⟩:=Hu s hy S;obtain⟨w1,l,m⟩:=Yo s v R D;have E:VR F (.p id (a+j.toNat*d)) (.pointer (some ⟨q.bl,q.ba+(a+j.toNat*d),none⟩)):=S;obtain⟨T,o,G⟩:=Yo m.rel z E A;refine h.zf ⟨.tuple #[],T,?_,F,m.trans G,by simp only[VR];exact⟨[],rfl,by simp[aG]⟩⟩;have p:(Extern.ReflectliteSwapper.exchange e ⟨q.bl,q.ba+a,none⟩ i.toNat j.toNat).run P w=.ok (.tuple #[]) T:=by unfold Extern.ReflectliteSwapper.exchange;have a1:=ai8 (b:=true) hu;have a2:=ai8 (b:=true) B;have a3:=al6 l;have a4:=al6 o;simp only[aY,jG t,aX,sK,jV,a1,a2,a3,a4,bP]
       have t1:¬(i<0\/i>=n):=ah;have t2:¬(j<0\/j>=n):=ah;show(Extern.ReflectliteSwapper.swap b #[.int .i64 i,.int .i64 j,.slice (some ⟨q.bl,q.ba+a,none⟩) n _,typeHandle P e]).run P w=_
       cases b
       ·have H:∀c,Extern.ReflectliteSwapper.swap false #[.int .i64 i,.int .i64 j,.slice (some ⟨q.bl,q.ba+a,none⟩) n c,typeHandle P e]=(do
         if i<0 ||i>=n ||j<0 ||j>=n then Extern.ReflectliteSwapper.outOfRange
         Extern.ReflectliteSwapper.exchange (<-Extern.Rtype.ofHandle (typeHandle P e)) ⟨q.bl,q.ba+a,none⟩ i.toNat j.toNat):=λ_=>rfl
        rw[H];have I:(decide (i<0) ||decide (i>=n) ||decide (j<0) ||decide (j>=n))=false:=by simp;omega
        simp only[I,iJ,if_false,aY,ab1,aX,p]
       ·have H:∀c,Extern.ReflectliteSwapper.swap true #[.int .i64 i,.int .i64 j,.slice (some ⟨q.bl,q.ba+a,none⟩) n c,typeHandle P e]=(do
         if i<0 ||i>=n then boundsPanic .i64 i n .index
         if j<0 ||j>=n then boundsPanic .i64 j n .index
         Extern.ReflectliteSwapper.exchange (<-Extern.Rtype.ofHandle (typeHandle P e)) ⟨q.bl,q.ba+a,none⟩ i.toNat j.toNat):=λ_=>rfl
        rw[H];have I:(decide (i<0) ||decide (i>=n))=false:=by simp;omega
        have t4:(decide (j<0) ||decide (j>=n))=false:=by simp;omega
        simp only[I,t4,iJ,if_false,aY,ab1,aX,p]
      ·cases k
     ·cases k
    ·cases k
   ·cases k
  ·cases k
 ·cases k
end
noncomputable section
variable[aJ]
variable{P:Program}
open Go.Extern.BytealgMakeNoZero
def agK:∀(n t:Nat)(a:W2),(digits n t a).size=a.size+n
 |0,_,_=>rfl
 |n+1,t,a=>by rw[digits,agK];simp;omega
def agJ:∀(n t:Nat)(a:W2)(k:Nat),k<a.size->(digits n t a)[k]? =a[k]?
 |0,_,_,_,_=>rfl
 |n+1,t,a,k,h=>by rw[digits,agJ n _ _ k (by simp;omega),IB,aj ah]
def agI:∀(n t:Nat)(a:W2)(k:Nat),a.size<=k->k<a.size+n->∃m:Int,0<=m/\m<=255/\(digits n t a)[k]? =some (.int .u8 m)
 |0,_,_,_,h1,b=>ah
 |n+1,t,a,k,h1,b=>by
  rw[digits];by_cases e:k=a.size
  ·subst e;refine⟨Int.ofNat (t%256),Int.natCast_nonneg _,by have:=Nat.mod_lt t (show 256>0 by decide);simp;omega,?_⟩;rw[agJ n _ _ _ aA,IB,au rfl]
  ·exact agI n _ _ k (by simp;omega) (by simp;omega)
def aci(e:TypeId):dV:=λl J=>match l with
 |[.i .i64 n]=>if 0<=n/\n<=1048576 then some (.sl J.next 0 n.toNat none,J.new (.cells (List.replicate n.toNat (.z .u8 0 255)) e true true))else none
 |_=>none
def ayH{f:FuncId}{D rs:Ww}{t e:TypeId}(h:Ext P f (makeNoZero D rs))(E:rs[0]? =some t)(G:P.underlying t=some (.slice e))(H:e≠0)(s:sizeT P e=some 1):dP P f (aci e):=by
 intro args J r J' i F w O u B;unfold aci at i;split at i
 ·next n=>
  split at i
  ·next Q=>
   cases i;simp only[aG,VR]at B;obtain⟨x,_,rfl,rfl,rfl⟩:=B;have d:=grownCap_ge w n.toNat 0 e;generalize l:grownCap w n.toNat 0 e=c at d;let w1:World:=w.drew
   obtain⟨bytes,v⟩:∃b,(choose (.extern "internal/bytealg.MakeNoZero.bytes" 0)).run P w1=.ok b w1.drew:=by simp only[choose,Sem.run,Question.forced,iJ,if_false];exact⟨_,rfl⟩
   have y:(choose (.appendCap n.toNat 0 e)).run P w=.ok c w1:=by simp only[choose,Sem.run,Question.forced,iJ,if_false];rw[<-l];rfl
   have g:∀w:World,(askRoom c).run P w=.ok () w:=λw=>by unfold askRoom;split<;>simp[mark,Sem.run]
   let j:=digits c bytes #[]
   have o:j.size=c:=by simp[j,agK]
   have z:St P F J w1.drew (F.put J.next ⟨w.heap.size,0,c,1⟩) (J.new (.cells (List.replicate n.toNat (.z .u8 0 255)) e true true)) {w1.drew with heap:=w.heap.push (.cells j e)}:=by
    refine St.alloc (w:=w1.drew) u.drew.drew _ _ _ rfl ?_;refine⟨j,e,(0,0),by show(w.heap.push _)[w.heap.size]? =_;simp,?_⟩;refine {fits:=by simp[o],le:=by simpa using d,shut:=aA,cell:=?_,free:=λ_ k p=>?_,whole:=λ_=>⟨rfl,by simp[o],λ_=>rfl⟩,room:=λ_=>⟨H,Nat.one_pos,s⟩}
    ·intro k a p;rw[List.getElem?_replicate]at p;split at p
     ·next I=>
      cases p;obtain⟨m,L,M,N⟩:=agI c bytes #[] k aA (by simp;omega);exact⟨_,by simpa[j]using N,m,L,M,rfl⟩
     ·cases p
    ·simp
   refine h.zf ⟨.slice (some ⟨w.heap.size,0,none⟩) n.toNat c,{w1.drew with heap:=w.heap.push (.cells j e)},?_,_,((St.drew u).trans (St.drew u.drew)).trans z,?_⟩
   ·have A:¬((n<0 ||n>2^48)=true):=by simp;omega
    conv=>lhs;arg 2;whnf
    simp only[E,aY,bD G,aX,aj A,bP,y,g,v,newRow,newObj];rfl
   ·have:=KC (q:=⟨w.heap.size,0,c,1⟩) (F:=F) (id:=J.next) (len:=n.toNat) (cap:=none) rfl (by simp only[uS,Nat.div_one];exact d);simpa using this
  ·cases i
 ·cases i
end
noncomputable section
variable[aJ]
open Go.ChangeShapes Go.WideShapes
variable{P:Program}
def afk{a b:Bool}(c:a=true)(d:b=true):(a&&b)=true:=by rw[c,d];rfl
structure Kept(W W':World):Prop where
 os:W'.os=W.os
 tape:W'.tape=W.tape
 output:W'.output=W.output
 size:W.heap.size<=W'.heap.size
 keep:∀bl,bl<W.heap.size->W'.heap[bl]? =W.heap[bl]?
def Kept.but{W a:World}(h:Kept W a)(m:MemPlace->Prop):W.keptBut a m:=by
 refine⟨h.os,h.output,λi hi=>?_⟩;rw[h.keep i hi];cases b:W.heap[i]? with
 |none=>trivial
 |some o=>cases o<;>first|exact⟨rfl,rfl,rfl,λ_ _=>rfl⟩|exact .inr ⟨rfl,rfl⟩|rfl
def Kept.frozen{W b:World}(h:Kept W b)(a:Addr)(c:a.block<W.heap.size):b.frozen? a=W.frozen? a:=by unfold World.frozen?;rw[h.keep _ c]
def St.kept{F F':Env}{J J':aC}{w w':World}(h:St P F J w F' J' w')(a:∀id o,J.get id=some o->o.own=false):Kept w w':=
 ⟨h.os,h.tape,h.output,h.size,λc d=>h.keep c d λid o q e b _ _=>by rw[a id o e]at b;cases b⟩
def lY.calls{f:FuncId}{fn:Func}{c:Code}{args:W2}{w:World}{R:Value->World->Prop}(g:xX P)(b:P.funcs[f]? =some fn)(d:fn.body=some c)
 (h:lY P f args w R):Calls P f args w λe w'=>∃v,e=.returned v/\R v w':=by
 rcases h with⟨v,w',h,_⟩|⟨_,h⟩
 ·have a:=g f fn c b d;simp only[callFunc,aY,program,Sem.run,aX,b]at h;simp only[a,iJ,if_false,d,Me,bP]at h;cases h
 ·exact h
def Calls.mono'{f:FuncId}{args:W2}{w:World}{R a:Ending->World->Prop}(h:Calls P f args w R)(b:∀e w',R e w'->a e w'):Calls P f args w a:=by intro c;obtain⟨e,w',d,g,i⟩:=h c;exact⟨e,w',d,b e w' g,i⟩
def awu{f:FuncId}{fn:Func}{c:Code}{args:Q6}{vs:Qt}{w:World}{F:Env}{J J':aC}{r:AV}{call:Caller}(a:tN P call)(h:xX P)(i:P.funcs[f]? =some fn)(j:fn.body=some c)
 (b:call f args J=some (r,J')) (k:SR P F J w) (l:aG F args vs) (d:∀id o,J.get id=some o->o.own=false):
 Calls P f ⟨vs⟩ w λe w'=>∃v,e=.returned v/\(∃F',VR F' r v)/\Kept w w':=
 Calls.mono' (lY.calls h i j (a f args J r J' b F w vs k l)) λ_ _ ⟨v,m,F',g,n⟩=>⟨v,m,⟨F',n⟩,g.kept d⟩
def xC(n:Nat)(J:aC)(ro:Nat->Option Obj:=λ_=>none):Env:=⟨λid=>if id<=n then some ⟨id,0,(match J.get id with|some (.cells c _ _ _)=>c.length|_=>0),0⟩else none,ro,λ_=>false⟩
structure TabAt(w:World)(g:Nat)(c:Q6):Prop where
 at':∃cs elem fr,w.heap[g]? =some (.cells cs elem fr)/\c.length<=cs.size/\Zl c cs
def MC{J:aC}{w:World}(H:P.globals.size<J.next)(d:∀id o,J.get id=some o->id<=P.globals.size/\∃c,o=.cells c 0 false false/\TabAt w id c){ro:QP}(i:∀b o,ro b=some o->w.heap[b]? =some o)(e:∀p∈aJ.tabs,Gf (xC P.globals.size J ro) p.1 p.2):SR P (xC P.globals.size J ro) J w:=by
 refine⟨λg j=>?_,λid q l=>?_,λid o s=>?_,λ_ j=>(by cases j),λid o t I q L m n M u=>?_,i,λid o q m n _=>?_,e⟩;rotate_right
 ·obtain⟨_,c,rfl,_⟩:=d id o m;cases n
 ·exact⟨_,_,by simp only[xC];rw[au j]⟩
 ·simp only[xC]at l;split at l
  ·omega
  ·cases l
 ·obtain⟨r,c,rfl,⟨v,f,y,z,A,B⟩⟩:=d id o s;refine .inl ⟨⟨id,0,c.length,0⟩,?_,v,f,y,z,?_⟩
  ·simp only[xC];rw[au r,s]
  ·refine⟨by simpa using A,dK _,λ_=>rfl,λk a D=>?_,(λh=>by cases h),λh=>absurd rfl h,(λh=>by cases h)⟩;obtain⟨x,E,G⟩:=B.1 k a D;exact⟨x,by simpa using E,G.vr⟩
 ·obtain⟨_,c,rfl,_⟩:=d id o m;cases n
def adQ{w:World}{b:String}{k:IntKind}{d:List Int}{g:Nat}(h:Lib.TabIs P w b k d)(j:P.globalNamed b=some g)(c:d.isEmpty=false:=by rfl):TabAt w g (d.map λz=>.i k z):=by
 unfold Lib.TabIs World.var? at h;rw[j]at h;simp only[AU]at h;split at h
 ·next m e n l=>
  cases h;refine⟨_,_,_,l,aA,λi a f=>?_,λ_=>aA,λh=>by simp at h;rw[h]at c;cases c⟩;simp only[iO,bG]at f;obtain⟨z,c,rfl⟩:=f;exact⟨.int k z,by simp[c],.inl rfl⟩
 ·cases h
def acp(k:IntKind)(n:Nat)(f:Nat->Int):DataW Unit:=.agg ((List.range n).map λi=>.agg ([f (2*i),f (2*i+1)].map λz=>.lit (.int k z)))
def aEy{w:World}{c:String}{k:IntKind}{n:Nat}{f:Nat->Int}{g:Nat}{t e:TypeId}{fs:Array Field}(h:Lib.VarReads P w c (acp k n f))(N:P.globalNamed c=some g)
 (B:(P.globals[g]?).map (·.type)=some t) (O:P.underlying t=some (.array n e)) (T:P.underlying e=some (.struct fs))
 (U:∀(m:Nat)(z:Field),fs[m]? =some z->P.underlying z.type=some (.int k)/\z.offset=m/\P.cellsOf z.type=1) (D:fs.size=2)
 (r:P.cellsOf e=2) (E:P.cellsOf t=2*n) (Z:n≠0:=by decide):TabAt w g ((List.range (2*n)).map λj=>.i k (f j)):=by
 obtain⟨g',t',Q,i,p,G,H,b,s⟩:=h;obtain rfl:=IZ (N.symm.trans G);obtain rfl:=IZ (B.symm.trans H);have l:Q.toList.length=2*n:=by
  cases i with
  |zero=>simp[DataW.trod]at s
  |succ i=>
   simp only[DataW.trod,O]at s;split at s
   ·next W=>rw[<-E];exact W
   ·cases s
 have o:∀j,j<2*n->Q[j]? =some (.int k (f j)):=by
  intro j hj;obtain⟨I,d,q,u,v⟩:=Lib.array_elem O s (j/2) ah;simp only[iO,aeI (ah:j/2<n),iH,bf]at u;subst u;rw[r]at v;have x:=Lib.ints_of_struct T U (by rw[r,D]) v;have L:=uD (·[0]?) x;have M:=uD (·[1]?) x;simp[uh]at L M;by_cases A:j%2=0
  ·have:j/2*2=j:=ah;rw[this]at L;rw[L];congr 3;omega
  ·have:j/2*2+1=j:=ah;rw[this]at M;rw[M];congr 3;omega
 unfold World.var? at b;rw[N]at b;simp only[AU]at b;split at b
 ·next X R fr Y=>
  cases b;refine⟨_,_,_,Y,by simp at l⊢;omega,λj a S=>?_,λ_=>by simp at l⊢;omega,λh=>by simp at h;omega⟩;simp only[iO,bG]at S;obtain⟨m,A,rfl⟩:=S;have y:j<2*n:=by have:=(fV.1 A).1;simpa using this
  rw[aeI y]at A;cases A;exact⟨_,o j y,.inl rfl⟩
 ·cases b
def azF{H:Type}{enc:TypeId×Value->H}{f:Func}{s:ChangeSpec}{apart l c again:Bool}{W o:World}{args:W2}{v:Value}{q gs:List (DataW H)}{a pa pv:List MemPlace}
 (x:DataW.Whole enc P f.params.toList s.vars apart W args.toList q gs a)
 (i:∀(b:Nat)(m:Nat->Bool)(B:Bool),DataW.TrodAll enc P o b m B f.resultTypes.toList (v.resultList f.resultTypes.size) (s.fn H (q++gs)).results [])
 (d:∀m:Nat->Bool,(∀p∈a,m p.block=true)->DataW.TrodAll enc P o 0 m true f.params.toList args.toList (s.fn H (q++gs)).args pa)
 (e:∀m:Nat->Bool,(∀p∈a,m p.block=true)->DataW.TrodVars enc P o m s.vars (s.fn H (q++gs)).vars pv)
 (h:a=pa++pv) (A:Kept W o)
 (y:∀(j:Nat)(t:TypeId)(r:Value),f.resultTypes[j]? =some t->(v.resultList f.resultTypes.size)[j]? =some r->Value.okWide P o .any 0 t r):
 s.post enc P f apart l c again W args v o:=by
 have k:∀p∈a,(λb=>decide (b<W.heap.size)) p.block=true:=λp g=>by simpa using x.lt p g
 have z:=λp g=>x.lt p g;refine⟨q,gs,a,[],pa,pv,x,i _ _ _,d _ k,e _ k,World.keptBut_mono (λp g=>⟨g,?_⟩) (A.but (·∈a)),λ_=>?_⟩
 ·rw[h,iP]at g;exact Or.inr g
 ·obtain⟨_,_,_,_,_,D,E⟩:=x;refine⟨y,_,_,([]++pa)++pv,⟨[]++pa,pv,trodAll_append (d _ (λ_ _=>rfl)) (i _ _ _),e _ (λ_ _=>rfl),rfl,?_,?_⟩,?_⟩
  ·intro b n g;have u:MemPlace.cell b n∈a:=by rw[h];simpa using g
   have G:=z _ u;rw[A.frozen ⟨b,n,none⟩ G];exact D b n u
  ·intro I;have:=E I;rw[h]at this;simpa using this
  ·intro p g _;rw[h];simpa using g
end
noncomputable section
variable[aJ]
variable{P:Program}
def lY.mono{f:FuncId}{args:W2}{w:World}{R c:Value->World->Prop}(h:lY P f args w R)(d:∀v w',R v w'->c v w'):lY P f args w c:=by
 rcases h with⟨v,w',a,b⟩|⟨a,b⟩
 ·exact .inl ⟨v,w',a,d v w' b⟩
 ·refine .inr ⟨a,Calls.mono' b ?_⟩;rintro e w' ⟨v,g,i⟩
  exact⟨v,g,d v w' i⟩
def St.Xz{F:Env}{J:aC}{w w':World}(h:SR P F J w)(a:Kept w w'):St P F J w F J w':=by refine⟨Env.le.refl _,⟨h.nR,h.dom,λid o d=>?_,h.kH,h.sep,λb o c=>(a.keep b (xF (h.jl b o c))).trans (h.jl b o c),h.lU,h.tabs⟩,a.size,λe c _=>a.keep e c,λid o q f g i j=>.inr ⟨id,o,q,f,g,i,j,rfl⟩,a.os,a.tape,a.output,rfl,dK _,λ_ h=>.inl h,λ_ h=>.inl h⟩;exact(h.live id o d).heap λq _ k=>a.keep _ k.lt
def Gf.at{F:Env}{J:aC}{w:World}(h:SR P F J w){g:Nat}{c:Q6}(b:Gf F g c):TabAt w g c:=by obtain⟨d,a,e,f,i,j⟩:=b;exact⟨d,a,e,h.jl _ _ f,i,j⟩
def AY(J0:aC)(n:Nat):Prop:=n<J0.next/\∀id o,J0.get id=some o->∃c,o=.cells c 0 false false/\(id,c)∈aJ.tabs/\id<=n
def SR.YD{F:Env}{J J0:aC}{w:World}(h:SR P F J w)(h0:AY J0 P.globals.size):SR P (xC P.globals.size J0 F.ro) J0 w:=
 MC h0.1 (λid o d=>by obtain⟨c,rfl,e,b⟩:=h0.2 id o d;exact⟨b,c,rfl,(h.tabs _ e).at h⟩) h.jl (λp f=>by obtain⟨g,a,i,j,k⟩:=h.tabs p f;exact⟨g,a,i,j,k⟩)
def AY.own{J0:aC}{n:Nat}(h:AY J0 n):∀id o,J0.get id=some o->o.own=false:=by intro id o a;obtain⟨c,rfl,_⟩:=h.2 id o a;rfl
def KL:dV:=λargs J=>match args with
 |[]=>some (.b true,J)
 |_=>none
def ayA{call:Caller}{f:FuncId}{J0 J':aC}(a:tN P call)(h0:AY J0 P.globals.size)(b:call f [] J0=some (.b true,J')):dP P f KL:=by
 intro args J r i c F w j e g;unfold KL at c;split at c
 ·cases c;simp only[aG]at g;subst g;refine lY.mono (a f [] J0 _ _ b _ w [] (e.YD h0) rfl) ?_;rintro v k ⟨l,d,h⟩
  refine⟨F,St.Xz e (d.kept h0.own),?_⟩;simp only[VR]at h⊢;exact h
 ·cases c
def VR.ground{F F':Env}{a:AV}{v:Value}(d:a.under 0=true)(h:VR F a v)(c:∀b o,F.ro b=some o->F'.ro b=some o):VR F' a v:=
 VR.mono (F:=F.cut 0) ⟨λid q e=>by simp[Env.cut]at e,c,λid f=>by simp[Env.cut]at f⟩ a v (VR.cut a v d h)
def aG.ground{F F':Env}{l:Q6}{vs:Qt}(c:AV.qW 0 l=true)(h:aG F l vs)(a:∀b o,F.ro b=some o->F'.ro b=some o):aG F' l vs:=
 aG.mono (F:=F.cut 0) ⟨λid q d=>by simp[Env.cut]at d,a,λid e=>by simp[Env.cut]at e⟩ l vs (aG.cut l vs c h)
def grp(agg:Bool)(size:Nat):Nat->List AV->List AV
 |0,_=>[]
 |n+1,cs=>(if agg then .agg (cs.take size)else cs.headD .kC)::grp agg size n (cs.drop size)
def JC(agg:Bool)(size:Nat):Nat->List Value->List Value
 |0,_=>[]
 |n+1,cs=>(if agg then .agg ⟨cs.take size⟩else cs.headD undef)::JC agg size n (cs.drop size)
def aaT(agg:Bool)(size:Nat):∀(n:Nat)(l:Q6),(grp agg size n l).length=n
 |0,_=>rfl
 |n+1,l=>by simp[grp,aaT agg size n]
def ahX{F:Env}{agg:Bool}{size:Nat}(h1:agg=false->size=1):∀(n:Nat)(l:Q6)(xs:Qt),aG F l xs->l.length=n*size->l.all AV.pF=true->
 aG F (grp agg size n l) (JC agg size n xs)/\(∀x∈JC agg size n xs,x.cells.size=size)/\dR (JC agg size n xs)=xs
 |0,l,xs,c,g,_=>by
  have:xs=[]:=by apply jT;rw[<-c.length,g];exact Nat.zero_mul _
  subst this;simp[grp,JC,aG,dR]
 |n+1,l,xs,c,g,b=>by
  have e:=c.length;rw[uj,IX]at g;have d:=ahX h1 n (l.drop size) (xs.drop size) (c.drop size) (by simp;omega) (by rw[List.all_eq_true]at b⊢;exact λa h=>b a (LZ h))
  cases agg with
  |true=>
   simp only[grp,JC,if_true];refine⟨aG.cons (by simp only[VR];exact⟨_,rfl,c.take size⟩) d.1,?_,?_⟩
   ·intro x i;rcases bJ.1 i with rfl|i
    ·have:=e;simp[Value.cells];try omega
    ·exact d.2.1 x i
   ·have:=d.2.2;simp only[dR,kP]at this⊢;rw[this];simp[Value.cells]
  |false=>
   have o:=h1 rfl;subst o;cases l with
   |nil=>simp at g
   |cons a l=>
    simp only[aG]at c;obtain⟨x,p,rfl,m,q⟩:=c;have h:=List.all_eq_true.1 b a aA;have j:=ab5 m h;have f:x.cells =#[x]:=by cases x<;>simp[qw]at j<;>rfl
    simp only[grp,JC,iJ,if_false,List.headD_cons];simp only[Y6,dY]at d⊢;refine⟨aG.cons m d.1,?_,?_⟩
    ·intro y k;rcases bJ.1 k with rfl|k
     ·rw[f];rfl
     ·exact d.2.1 y k
    ·have:=d.2.2;simp only[dR,kP]at this⊢;rw[this,f];rfl
def uY(P:Program)(J:aC):Nat->AV->Option AV
 |0,_=>none
 |n+1,a=>
  match a with
  |.sl id off len _=>
   if len=0 then some (.ro [])else
   match J.get id with
   |some (.cells c et true _)=>
    match sizeT P et,pG P et with
    |some size,some agg=>
     if(agg=true/\0<size)\/size=1 then
      match takeN c off (len*size)with
      |some cs=>match wK (uY P J n) cs with
       |some b=>if b.all AV.pF then some (.ro (grp agg size len b))else none
       |none=>none
      |none=>none
     else none
    |_,_=>none
   |_=>none
  |.gX=>some (.ro [])
  |.agg l=>(wK (uY P J n) l).map .agg
  |.fG l=>(wK (uY P J n) l).map .fG
  |.jE t x=>(uY P J n x).map (.jE t)
  |a=>if a.under 0 then some a else none
def ayq{F F':Env}{f:AV->Option AV}(i:∀a r v,f a=some r->VR F a v->VR F' r v){l r:Q6}{vs:Qt}(h:wK f l=some r)(d:aG F l vs):aG F' r vs:=by
 obtain⟨j,m⟩:=Oo h;refine aG.of (by rw[<-j];exact d.length) λk a e=>?_;have b:k<l.length:=by have:=(fV.1 e).1;omega
 obtain⟨y,g,c⟩:=m k _ (bV b);rw[e]at g;cases g;obtain⟨x,n,o⟩:=d.at (bV b);exact⟨x,n,i _ _ _ c o⟩
def auh{F F':Env}{J:aC}{w:World}{N:Nat}(h:SR P F J w)(s:∀id o q,J.get id=some o->o.own=true->F id=some q->N<=q.bl)
 (I:∀b o,F.ro b=some o->F'.ro b=some o) (t:∀b o,N<=b->w.heap[b]? =some o->F'.ro b=some o):∀(n:Nat)(a r:AV)(v:Value),uY P J n a=some r->VR F a v->VR F' r v:=by
 intro n;induction n with
 |zero=>intro a r v d;simp[uY]at d
 |succ n T=>
  intro a r v d f;have j:∀(l r:Q6)(m:Qt),wK (uY P J n) l=some r->aG F l m->aG F' r m:=λl r m h1 h2=>ayq T h1 h2;unfold uY at d;split at d
  ·next id L len ab=>
   simp only[VR]at f;obtain⟨q,U,M,rfl⟩:=f;split at d
   ·next W=>cases d;subst W;exact SV
   ·next W=>
    split at d
    ·next c et ac X=>
     split at d
     ·next g O hs ha=>
      split at d
      ·next Q=>
       split at d
       ·next cs p=>
        split at d
        ·next ds u=>
         split at d
         ·next z=>
          cases d;obtain⟨q',A,ws,B,fr,hb,Y⟩:=h.obj _ _ X rfl;rw[U]at A;cases A;have i:=j _ _ _ u (Y.Ar p);have D:=(uJ p).2.1;have E:=(Oo u).1;have G:O=false->g=1:=λe=>Q.elim (λh=>absurd (h.1.symm.trans e) aA) (λh=>h);obtain⟨g1,g2,Z⟩:=ahX G len ds _ i (by rw[<-E,D]) z;have aa:=Y.take p;have R:=i.length;simp only[VR];right;refine⟨q.bl,q.ba+L,_,_,g,by rw[aaT],by rw[aaT];exact M,g1,g2,λ_=>⟨ws,B,fr,t _ _ (s id _ q X rfl U) hb,?_,?_⟩⟩
          ·rw[Z];rw[<-R,<-E,D];have:0<len*g:=PO ah ah;omega
          ·rw[Z];intro k x H;rw[mW]at H;split at H
           ·rw[uh,xR]at H;exact H
           ·cases H
         ·cases d
        ·cases d
       ·cases d
      ·cases d
     ·cases d
    ·cases d
  ·cases d;simp only[VR]at f⊢;exact .inl ⟨trivial,_,f⟩
  ·simp only[bG]at d;obtain⟨l',S,rfl⟩:=d;simp only[VR]at f⊢;obtain⟨m,rfl,f⟩:=f;exact⟨m,rfl,j _ _ _ S f⟩
  ·simp only[bG]at d;obtain⟨l',S,rfl⟩:=d;simp only[VR]at f⊢;obtain⟨m,rfl,f⟩:=f;exact⟨m,rfl,j _ _ _ S f⟩
  ·simp only[bG]at d;obtain⟨x',hx,rfl⟩:=d;simp only[VR]at f⊢;obtain⟨y,rfl,f⟩:=f;exact⟨y,rfl,T _ _ _ hx f⟩
  ·split at d
   ·next hu=>cases d;exact VR.ground hu f I
   ·cases d
structure Base where
 w:World
 hole:Nat->Prop
 anch:Nat->Option Place
structure Ua(b:Base)(W':World):Prop where
 os:W'.os=b.w.os
 tape:W'.tape=b.w.tape
 output:W'.output=b.w.output
 size:b.w.heap.size<=W'.heap.size
 keep:∀bl,bl<b.w.heap.size->¬b.hole bl->W'.heap[bl]? =b.w.heap[bl]?
def Base.shut(w:World):Base:=⟨w,λ_=>False,λ_=>none⟩
structure kY(P:Program)(w0:Base)(fA:QP)(F:Env)(J:aC)(w:World):Prop where
 rel:SR P F J w
 kept:Ua w0 w
 own:∀id o q,J.get id=some o->o.own=true->F id=some q->w0.w.heap.size<=q.bl\/w0.hole q.bl
 wO:∀b o,fA b=some o->F.ro b=some o
 rW:∀b,F.ro b≠none->fA b≠none\/w0.w.heap.size<=b\/w0.hole b
 uo:∀i q,w0.anch i=some q->F i=some q/\P.globals.size<i/\i<=P.globals.size+iD.ka
def Kept.refl(w:World):Kept w w:=⟨rfl,rfl,rfl,dK _,λ_ _=>rfl⟩
def kY.start{F:Env}{J:aC}{w:World}(h:SR P F J w)(a:∀id o,J.get id=some o->o.own=false):kY P (.shut w) F.ro F J w:=
 ⟨h,⟨rfl,rfl,rfl,dK _,λ_ _ _=>rfl⟩,λid o q c b=>(by rw[a id o c]at b;cases b),λ_ _ h=>h,λ_ h=>.inl h,λ_ _ h=>by cases h⟩
def Ua.shut{w w':World}(h:Ua (.shut w) w'):Kept w w':=⟨h.os,h.tape,h.output,h.size,λa b=>h.keep a b (λe=>e)⟩
def kY.ayw{w:World}{d:QP}{F:Env}{J:aC}{w':World}(h:kY P (.shut w) d F J w'):∀id o q,J.get id=some o->o.own=true->F id=some q->w.heap.size<=q.bl:=by
 intro id o q a b c;rcases h.own id o q a b c with h1|h1
 ·exact h1
 ·cases h1
def kY.alg{w:World}{a:QP}{F:Env}{J:aC}{w':World}(h:kY P (.shut w) a F J w'):∀b,F.ro b≠none->a b≠none\/w.heap.size<=b:=by
 intro b c;rcases h.rW b c with h1|h1|h1
 ·exact .inl h1
 ·exact .inr h1
 ·cases h1
def kY.step{w0:Base}{l:QP}{F F':Env}{J J':aC}{w w':World}(h:kY P w0 l F J w)(p:J.lock=0)(k:St P F J w F' J' w'):kY P w0 l F' J' w':=by
 refine⟨k.rel,⟨k.os.trans h.kept.os,k.tape.trans h.kept.tape,k.output.trans h.kept.output,kR h.kept.size k.size,λm c n=>?_⟩,λid o q h1 r s=>?_,λb o c=>k.ext.ro b o (h.wO b o c),λb c=>?_,λi q hi=>⟨k.ext.pl _ _ (h.uo i q hi).1,(h.uo i q hi).2⟩⟩
 ·rw[k.keep m (yX c h.kept.size) (λid o q f t _ u=>by
   rcases h.own id o q f t u with h1|h1
   ·omega
   ·intro e;rw[e]at h1;exact n h1)]
  exact h.kept.keep m c n
 ·rcases k.own id o q h1 r (by rw[p];exact sG _) s with v|⟨g,o0,j,a,b,_,d,e⟩
  ·exact .inl (kR h.kept.size v)
  ·rw[<-e];exact h.own g o0 j a b d
 ·rcases k.rW b c with h1|h1|⟨g,o0,j,f,x,z,d1,y⟩
  ·exact h.rW b h1
  ·exact .inr (.inl (kR h.kept.size h1))
  ·right;rw[<-y];exact h.own g o0 j f x d1
def Fn(P:Program)(f:FuncId)(args:Q6)(R:AV->Prop):Prop:=∀F J w a,SR P F J w->aG F args a->lY P f ⟨a⟩ w λv c=>∃b r,R r/\St P F J w b J c/\VR b r v
def kY.freeze{F F1:Env}{J s:aC}{w w1:World}(d:SR P F J w)(h:kY P (.shut w) F.ro F1 s w1){n:Nat}{r i:AV}{v:Value}(z:uY P s n r=some i)(A:VR F1 r v):
 ∃F',St P F J w F' J w1/\VR F' i v:=by
 let e:Nat->Option Obj:=λb=>if b<w.heap.size then F.ro b else w1.heap[b]?
 have j:∀b o,F.ro b=some o->b<w.heap.size:=λb o a=>xF (d.jl b o a);have f:(F:Env).le ⟨F.pl,e,F.gh⟩:=⟨λ_ _ h=>h,λb o a=>by show(if _ then _ else _)=_;rw[au (j b o a)];exact a,λ_ h=>h⟩
 have k:∀b o,F1.ro b=some o->e b=some o:=by
  intro b o a;show(if _ then _ else _)=_
  split
  ·next B=>
   rcases h.alg b (by rw[a];simp)with h1|h1
   ·cases t:F.ro b with
    |none=>exact absurd t h1
    |some D=>have:=h.wO b D t;rw[a]at this;exact this.symm
   ·omega
  ·exact h.rel.jl b o a
 refine⟨⟨F.pl,e,F.gh⟩,?_,auh (N:=w.heap.size) h.rel h.ayw k (λb o a l=>by show(if _ then _ else _)=_;rw[aj ah];exact l) n r i v z A⟩;have g:=h.kept.shut;refine⟨f,⟨d.nR,d.dom,λid o l=>?_,d.kH,d.sep,λb o a=>?_,λid o q u E x=>?_,λp G=>(d.tabs p G).mono f⟩,g.size,λH a _=>g.keep H a,λid o q h1 I L M=>.inr ⟨id,o,q,h1,I,L,M,rfl⟩,g.os,g.tape,g.output,rfl,dK _,λ_ h=>.inl h,λb a=>?_⟩
 ·exact((d.live id o l).heap λq _ m=>g.keep _ m.lt).mono f
 ·have c:(if b<w.heap.size then F.ro b else w1.heap[b]?)=some o:=a;split at c
  ·next y=>rw[g.keep b y];exact d.jl b o c
  ·exact c
 ·have m:=d.at u (show F id=some q from x);show(if q.bl<w.heap.size then F.ro q.bl else w1.heap[q.bl]?)=none
  rw[au m.lt];exact d.lU id o q u E x
 ·have c:(if b<w.heap.size then F.ro b else w1.heap[b]?)≠none:=a;split at c
  ·exact .inl c
  ·next y=>right;left;omega
def Fn.ab2{call:Caller}{f:FuncId}{J0 J':aC}{args:Q6}{r d:AV}(a:tN P call)(h0:AY J0 P.globals.size)(i:J0.lock=0)(j:AV.qW 0 args=true)(b:call f args J0=some (r,J'))(n:Nat)(k:uY P J' n r=some d):Fn P f args (· =d):=by
 intro F J w l g m;have c:=g.YD h0;refine lY.mono (a f args J0 _ _ b _ w l c (aG.ground j m (λ_ _ h=>h))) ?_;rintro v u ⟨x,e,o⟩
 have p:=(kY.start c h0.own).step i e;obtain⟨q,s,t⟩:=p.freeze (F:=F) g k o;exact⟨q,d,rfl,s,t⟩
def dP.ayi{f:FuncId}{g:Q6->Option AV}(h:∀args r,g args=some r->Fn P f args (· =r)):dP P f λargs J=>(g args).map (·,J):=by
 intro args J r J' a F w b c d;simp only[bG,pU]at a;obtain⟨r0,e,rfl,rfl⟩:=a;refine lY.mono (h args r0 e F J w b c d) ?_;rintro v l ⟨i,r,rfl,j,k⟩
 exact⟨i,j,k⟩
