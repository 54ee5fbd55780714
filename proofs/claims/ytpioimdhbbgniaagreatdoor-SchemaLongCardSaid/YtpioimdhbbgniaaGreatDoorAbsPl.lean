/- Plain laws over trees: values of one's own as ground values; how a tree is gone through. -/
import Derived.Test.YtpioimdhbbgniaaGreatDoorAbsJ
namespace Go.aJ
set_option linter.unusedSimpArgs false
theorem DL {Ds:List aI} {k:Nat} {d:aI} {gs out:List GV} (hk:Ds[k]? = some d) (h:d.den (vM Ds).lim gs=some out):(vM Ds).lim k gs=some out:=fO.ah2 hk h
def upd (val:Nat->Option GV) (k:Nat) (g:GV):Nat->Option GV:=λn=>if n=k then some g else val n
def QT (gs:List GV):Nat->Option GV:=λn=>gs[n]?
@[simp] theorem apu {gs:List GV} {n:Nat}:QT gs n=gs[n]?:=rfl
@[simp] theorem upd_same {val:Nat->Option GV} {k:Nat} {g:GV}:upd val k g k=some g:=ak rfl
@[simp] theorem upd_ne {val:Nat->Option GV} {k n:Nat} {g:GV} (h:n≠k):upd val k g n=val n:=ah h
def Tree.go (I:fG):Tree->Nat->(Nat->Option GV)->Option (List GV)
 | .step nd t,k,val=>match nd.den I val with
   | some g=>t.go I (k+1) (upd val k g)
   | none=>none
 | .ite n t e,k,val=>match val n with
   | some (.b true)=>t.go I k val
   | some (.b false)=>e.go I k val
   | _=>none
 | .ret l,_,val=>valsOf val l
 | .tail f l,_,val=>match valsOf val l with
   | some gs=>I f gs
   | none=>none
 | .dead,_,_=>none
theorem Tree.Ju {I:fG}:∀ (t:Tree) (env:List GV),t.go I env.length (λn=>env[n]?)=t.den I env
 | .step nd t,env=>by
   simp only [Tree.go,Tree.den];cases nd.den I λn=>env[n]? with
   | none=>rfl
   | some g=>
     simp only;rw [<- Tree.Ju t (env++[g])];congr 1
     ·simp
     ·funext n
      unfold upd;split
      ·next h=>subst h;simp
      ·next h=>
       show env[n]? = (env++[g])[n]?
       rcases xJ n env.length with hl | hl
       ·rw [kT hl]
       ·rw [sH hl,vF (l:=env) hl,vF]
        simp;omega
 | .ite n t e,env=>by simp only [Tree.go,Tree.den,Tree.Ju t env,Tree.Ju e env];rfl
 | .ret l,env=>rfl
 | .tail f l,env=>rfl
 | .dead,env=>rfl
def X3 (o:Option GV) (I:fG) (t:Tree) (k:Nat) (val:Nat->Option GV):Option (List GV):=match o with
 | some g=>t.go I (k+1) (upd val k g)
 | none=>none
def YD (o:Option GV) (I:fG) (t e:Tree) (k:Nat) (val:Nat->Option GV):Option (List GV):=match o with
 | some (.b true)=>t.go I k val
 | some (.b false)=>e.go I k val
 | _=>none
section
variable {I:fG} {k:Nat} {val:Nat->Option GV}
@[simp] theorem ad2 {g:GV} {t:Tree}:X3 (some g) I t k val=t.go I (k+1) (upd val k g):=rfl
@[simp] theorem ap9 {c:Bool} {t e:Tree}:YD (some (.b c)) I t e k val=if c=true then t.go I k val else e.go I k val:=by cases c<;>rfl
@[simp] theorem an6 {nd:Nd} {t:Tree}:(Tree.step nd t).go I k val=X3 (nd.den I val) I t k val:=rfl
@[simp] theorem arU {n:Nat} {t e:Tree}:(Tree.ite n t e).go I k val=YD (val n) I t e k val:=rfl
@[simp] theorem arV {l:List Nat}:(Tree.ret l).go I k val=valsOf val l:=rfl
@[simp] theorem arT:Tree.dead.go I k val=none:=rfl
@[simp] theorem arW {f:Nat} {l:List Nat}:(Tree.tail f l).go I k val=(valsOf val l).bind (I f):=by
 simp only [Tree.go];cases valsOf val l<;>rfl
end
@[simp] theorem ai2 {I:fG} {f j:Nat} {l:List Nat} {val:Nat->Option GV}:(Nd.call f l j).den I val=(valsOf val l).bind λgs=>(I f gs).bind λr=>r[j]?:=by
 simp only [Nd.den];cases valsOf val l with
 | none=>rfl
 | some gs=>simp only [yV];cases I f gs<;>rfl
@[simp] theorem ar0 {val:Nat->Option GV}:valsOf val []=some []:=rfl
@[simp] theorem adf {val:Nat->Option GV} {n:Nat} {l:List Nat}:valsOf val (n::l)=(val n).bind λg=>(valsOf val l).bind λr=>some (g::r):=by
 simp only [valsOf];cases val n<;>cases valsOf val l<;>rfl
def fP (op:BinOp) (x y:Option GV):Option GV:=match x,y with
 | some a,some b=>fE op a b
 | _,_=>none
def QW (op:BinOp) (x y:Option GV):Option GV:=match x,y with
 | some a,some b=>L6 op a b
 | _,_=>none
def I5 (op:BinOp) (ks:List Nat) (x y:Option GV):Option GV:=match x,y with
 | some a,some b=>Fb op ks a b
 | _,_=>none
def Wp (op:UnOp) (x:Option GV):Option GV:=match x with
 | some a=>P8 op a
 | none=>none
section
variable {I:fG} {val:Nat->Option GV}
@[simp] theorem aq8 {k:IntKind} {n:Int}:(Nd.ci k n).den I val=some (.i k n):=rfl
@[simp] theorem aq6 {x:Bool}:(Nd.cb x).den I val=some (.b x):=rfl
@[simp] theorem ara {x:List UInt8}:(Nd.cs x).den I val=some (.s x):=rfl
@[simp] theorem aq2 {op:BinOp} {a b:Nat}:(Nd.bin op a b).den I val=fP op (val a) (val b):=rfl
@[simp] theorem aq3 {op:BinOp} {a b:Nat}:(Nd.Az op a b).den I val=QW op (val a) (val b):=rfl
@[simp] theorem aq4 {op:BinOp} {ks:List Nat} {a b:Nat}:(Nd.AA op ks a b).den I val=I5 op ks (val a) (val b):=rfl
@[simp] theorem arz {op:UnOp} {a:Nat}:(Nd.un op a).den I val=Wp op (val a):=rfl
def JQ (big:Bool) (x y:Option GV):Option GV:=match x,y with
 | some (.i k x),some (.i k' y)=>if k=k' then some (.i k (if big then (if x < y then y else x) else (if y < x then y else x))) else none
 | _,_=>none
@[simp] theorem arn {g:Bool} {a b:Nat}:(Nd.mm g a b).den I val=JQ g (val a) (val b):=rfl
@[simp] theorem aqY {k:IntKind} {x y:Int}:JQ true (some (.i k x)) (some (.i k y))=some (.i k (if x < y then y else x)):=by simp [JQ]
@[simp] theorem aqX {k:IntKind} {x y:Int}:JQ false (some (.i k x)) (some (.i k y))=some (.i k (if y < x then y else x)):=by simp [JQ]
def YF (k:IntKind) (x:Option GV):Option GV:=match x with
 | some (.i _ n)=>some (.i k (k.wrap n))
 | _=>none
@[simp] theorem aq9 {k:IntKind} {a:Nat}:(Nd.conv k a).den I val=YF k (val a):=rfl
@[simp] theorem aqa {k k':IntKind} {n:Int}:YF k (some (.i k' n))=some (.i k (k.wrap n)):=rfl
def len1 (x:Option GV):Option GV:=match x with
 | some (.l xs)=>some (.i .i64 xs.length)
 | _=>none
@[simp] theorem arf {a:Nat}:(Nd.len a).den I val=len1 (val a):=rfl
@[simp] theorem aqT {xs:List GV}:len1 (some (.l xs))=some (.i .i64 xs.length):=rfl
def acA (x:Option GV):Option GV:=match x with
 | some (.s x)=>some (.i .i64 x.length)
 | _=>none
@[simp] theorem arv {a:Nat}:(Nd.slen a).den I val=acA (val a):=rfl
@[simp] theorem arP {x:List UInt8}:acA (some (.s x))=some (.i .i64 x.length):=rfl
def VO (x i:Option GV):Option GV:=match x,i with
 | some (.s x),some (.i _ k)=>if 0<=k then match x[k.toNat]? with
   | some c=>some (.i .u8 c.toNat)
   | none=>none
   else none
 | _,_=>none
@[simp] theorem aru {a i:Nat}:(Nd.BL a i).den I val=VO (val a) (val i):=rfl
@[simp] theorem arO {x:List UInt8} {kk:IntKind} {k:Int}:VO (some (.s x)) (some (.i kk k))=if 0<=k then (x[k.toNat]?).bind λc=>some (.i .u8 c.toNat) else none:=by
 simp only [VO];split
 ·cases x[k.toNat]?<;>rfl
 ·rfl
def acH (x lo hi:Option GV):Option GV:=match x,lo,hi with
 | some (.s x),some (.i _ l),some (.i _ h)=>if 0<=l/\l<=h/\h<=x.length then some (.s ((x.take h.toNat).drop l.toNat)) else none
 | _,_,_=>none
@[simp] theorem arw {a l h:Nat}:(Nd.BM a l h).den I val=acH (val a) (val l) (val h):=rfl
def abm (z m k:Option GV):Option GV:=match z,m,k with
 | some d,some (.l xs),some g=>some ((iD g xs).getD d)
 | _,_,_=>none
def abn (m k:Option GV):Option GV:=match m,k with
 | some (.l xs),some g=>some (.b (iD g xs).isSome)
 | _,_=>none
def abo (m k v:Option GV):Option GV:=match m,k,v with
 | some (.l xs),some g,some u=>some (.l (jw g u xs))
 | _,_,_=>none
@[simp] theorem ari {z m k:Nat}:(Nd.BA z m k).den I val=abm (val z) (val m) (val k):=rfl
@[simp] theorem arj {m k:Nat}:(Nd.BD m k).den I val=abn (val m) (val k):=rfl
@[simp] theorem aro {m k v:Nat}:(Nd.yx m k v).den I val=abo (val m) (val k) (val v):=rfl
@[simp] theorem aqV {d g:GV} {xs:List GV}:abm (some d) (some (.l xs)) (some g)=some ((iD g xs).getD d):=rfl
@[simp] theorem aqW {g:GV} {xs:List GV}:abn (some (.l xs)) (some g)=some (.b (iD g xs).isSome):=rfl
@[simp] theorem aqZ {g u:GV} {xs:List GV}:abo (some (.l xs)) (some g) (some u)=some (.l (jw g u xs)):=rfl
@[simp] theorem arS {x:List UInt8} {k k':IntKind} {l h:Int}:acH (some (.s x)) (some (.i k l)) (some (.i k' h))=if 0<=l/\l<=h/\h<=x.length then some (.s ((x.take h.toNat).drop l.toNat)) else none:=rfl
def aa0 (size:Nat) (x lo hi:Option GV):Option GV:=match x,lo,hi with
 | some (.l xs),some (.i _ l),some (.i _ h)=>if 0<=l/\l<=h/\h<=xs.length/\(xs.all λx=>Nat.beq x.cells.length size)=true then some (.l ((xs.take h.toNat).drop l.toNat)) else none
 | _,_,_=>none
@[simp] theorem arh {s a l h:Nat}:(Nd.zF s a l h).den I val=aa0 s (val a) (val l) (val h):=rfl
@[simp] theorem aqU {s:Nat} {xs:List GV} {k k':IntKind} {l h:Int}:aa0 s (some (.l xs)) (some (.i k l)) (some (.i k' h))=if 0<=l/\l<=h/\h<=xs.length/\(xs.all λx=>Nat.beq x.cells.length s)=true then some (.l ((xs.take h.toNat).drop l.toNat)) else none:=rfl
def aar (x i:Option GV):Option GV:=match x,i with
 | some (.l xs),some (.i _ k)=>if 0<=k/\k < xs.length then some (.i .i64 k) else none
 | _,_=>none
@[simp] theorem arb {a i:Nat}:(Nd.idx a i).den I val=aar (val a) (val i):=rfl
@[simp] theorem aqS {xs:List GV} {kk:IntKind} {k:Int}:aar (some (.l xs)) (some (.i kk k))=if 0<=k/\k < xs.length then some (.i .i64 k) else none:=rfl
def at2 (size:Nat) (x i:Option GV):Option GV:=match x,i with
 | some (.l xs),some (.i _ k)=>if 0<=k then match xs[k.toNat]? with
   | some x=>if x.cells.length=size then some x else none
   | none=>none
   else none
 | _,_=>none
@[simp] theorem aq1 {s a i:Nat}:(Nd.at s a i).den I val=at2 s (val a) (val i):=rfl
@[simp] theorem apv {s:Nat} {xs:List GV} {kk:IntKind} {k:Int}:at2 s (some (.l xs)) (some (.i kk k))=if 0<=k then (xs[k.toNat]?).bind λx=>if x.cells.length=s then some x else none else none:=by
 simp only [at2];split
 ·cases xs[k.toNat]?<;>rfl
 ·rfl
def cell1 (off:Nat) (x:Option GV):Option GV:=match x with
 | some g=>match g.cells[off]? with
   | some c=>if c.scalar then some c else none
   | none=>none
 | none=>none
@[simp] theorem aq7 {o a:Nat}:(Nd.cell o a).den I val=cell1 o (val a):=rfl
@[simp] theorem ap2 {o:Nat} {g:GV}:cell1 o (some g)=(g.cells[o]?).bind λc=>if c.scalar=true then some c else none:=by
 simp only [cell1];cases g.cells[o]?<;>rfl
@[simp] theorem ark {l:List Nat}:(Nd.mk l).den I val=(valsOf val l).bind λgs=>if gs.all GV.scalar=true then some (.g gs) else none:=by
 simp only [Nd.den];cases valsOf val l<;>rfl
@[simp] theorem arl {l:List Nat}:(Nd.ml l).den I val=(valsOf val l).bind λgs=>some (.l gs):=by
 simp only [Nd.den];cases valsOf val l<;>rfl
def XP (size bs:Nat) (x y:Option GV):Option GV:=match x,y with
 | some (.l xs),some (.l ys)=>if ys.all (GV.fQ size)=true/\2 * (xs.length+ys.length) * bs<=2 ^ 48/\xs.length+ys.length<=2 ^ 48 then some (.l (xs++ys)) else none
 | _,_=>none
@[simp] theorem aq0 {z s a b:Nat}:(Nd.app z s a b).den I val=XP z s (val a) (val b):=rfl
@[simp] theorem apt {z s:Nat} {xs ys:List GV}:XP z s (some (.l xs)) (some (.l ys))=if ys.all (GV.fQ z)=true/\2 * (xs.length+ys.length) * s<=2 ^ 48/\xs.length+ys.length<=2 ^ 48 then some (.l (xs++ys)) else none:=rfl
def Wu (size off:Nat) (x i:Option GV) (vs:Option (List GV)):Option GV:=match x,i,vs with
 | some (.l xs),some (.i _ k),some gs=>if 0<=k/\gs.all GV.scalar=true then match xs[k.toNat]? with
   | some x=>if x.cells.length=size then (x.put off gs).map λy=>.l (xs.set k.toNat y) else none
   | none=>none
   else none
 | _,_,_=>none
@[simp] theorem arA {s o a i:Nat} {vs:List Nat}:(Nd.upd s o a i vs).den I val=Wu s o (val a) (val i) (valsOf val vs):=rfl
@[simp] theorem arZ {s o:Nat} {xs:List GV} {kk:IntKind} {k:Int} {gs:List GV}:Wu s o (some (.l xs)) (some (.i kk k)) (some gs)=if 0<=k/\gs.all GV.scalar=true then (xs[k.toNat]?).bind λx=>if x.cells.length=s then (x.put o gs).map λy=>.l (xs.set k.toNat y) else none else none:=by
 simp only [Wu];split
 ·cases xs[k.toNat]?<;>rfl
 ·rfl
@[simp] theorem arE {k:IntKind} {n:Int} {v:GV}:(GV.i k n).put 0 [v]=some v:=rfl
def acd (size QX:Nat) (z l c:Option GV):Option GV:=match z,l,c with
 | some x,some (.i _ n),some (.i _ m)=>if 0<=n/\n<=m/\QX * m<=2 ^ 48/\m<=2 ^ 60/\x.fQ size=true then some (.l (List.replicate n.toNat x)) else none
 | _,_,_=>none
@[simp] theorem arp {s b z l c:Nat}:(Nd.rep s b z l c).den I val=acd s b (val z) (val l) (val c):=rfl
@[simp] theorem arF {s b:Nat} {x:GV} {k k':IntKind} {n m:Int}:acd s b (some x) (some (.i k n)) (some (.i k' m))=if 0<=n/\n<=m/\b * m<=2 ^ 48/\m<=2 ^ 60/\x.fQ s=true then some (.l (List.replicate n.toNat x)) else none:=by
 cases x<;>rfl
@[simp] theorem aq5 {a:Nat}:(Nd.bytes a).den I val=(val a).bind λg=>match g with | .s x=>some (.l (dU x)) | _=>none:=by
 simp only [Nd.den];cases val a with
 | none=>rfl
 | some g=>cases g<;>rfl
@[simp] theorem arx {a:Nat}:(Nd.str a).den I val=(val a).bind λg=>match g with | .l xs=>if xs.length<=2 ^ 48 then (nP xs).map .s else none | _=>none:=by
 simp only [Nd.den];cases val a with
 | none=>rfl
 | some g=>cases g<;>rfl
@[simp] theorem arq {a b:Nat}:(Nd.same a b).den I val=(val a).bind λg=>(val b).bind λh=>match g,h with | .l xs,.l ys=>if ys.length=xs.length then some (.l ys) else none | _,_=>none:=by
 simp only [Nd.den];cases val a with
 | none=>rfl
 | some g=>cases val b with
   | none=>cases g<;>rfl
   | some h=>cases g<;>cases h<;>rfl
@[simp] theorem ard {a j:Nat}:(Nd.wZ a j).den I val=(val a).bind λg=>match g with | .i _ m=>some (.b (decide (m=(j:Int)))) | _=>none:=by
 simp only [Nd.den];cases val a with
 | none=>rfl
 | some g=>cases g<;>rfl
@[simp] theorem ars {a:Nat}:(Nd.zU a).den I val=(val a).bind λg=>match g with | .s x=>some (.s x) | _=>none:=by
 simp only [Nd.den];cases val a with
 | none=>rfl
 | some g=>cases g<;>rfl
end
section
variable {k:IntKind} {a b:Int}
@[simp] theorem apw:fP .add (some (.i k a)) (some (.i k b))=some (.i k (k.wrap (a+b))):=by simp [fP,fE,eH]
@[simp] theorem apR:fP .sub (some (.i k a)) (some (.i k b))=some (.i k (k.wrap (a - b))):=by simp [fP,fE,eH]
@[simp] theorem apD:fP .mul (some (.i k a)) (some (.i k b))=some (.i k (k.wrap (a * b))):=by simp [fP,fE,eH]
@[simp] theorem apG:fP .quo (some (.i k a)) (some (.i k b))=if b=0 then none else some (.i k (k.wrap (a.tdiv b))):=by simp [fP,fE,eH]
@[simp] theorem apH:fP .rem (some (.i k a)) (some (.i k b))=if b=0 then none else some (.i k (a.tmod b)):=by simp [fP,fE,eH]
@[simp] theorem apy:fP .eql (some (.i k a)) (some (.i k b))=some (.b (decide (a=b))):=by
 simp only [fP,fE,eH,if_true];rw [show (a==b)=decide (a=b) from rfl]
@[simp] theorem apE:fP .neq (some (.i k a)) (some (.i k b))=some (.b (decide (a≠b))):=by
 simp only [fP,fE,eH,if_true,bne];rw [show (a==b)=decide (a=b) from rfl,<- decide_not]
@[simp] theorem apC:fP .lss (some (.i k a)) (some (.i k b))=some (.b (decide (a < b))):=by simp [fP,fE,eH]
@[simp] theorem apB:fP .leq (some (.i k a)) (some (.i k b))=some (.b (decide (a<=b))):=by simp [fP,fE,eH]
@[simp] theorem apA:fP .gtr (some (.i k a)) (some (.i k b))=some (.b (decide (b < a))):=by simp [fP,fE,eH]
@[simp] theorem apz:fP .geq (some (.i k a)) (some (.i k b))=some (.b (decide (b<=a))):=by simp [fP,fE,eH]
@[simp] theorem apx:fP .and (some (.i k a)) (some (.i k b))=eH .and k a b:=by simp [fP,fE]
@[simp] theorem apF:fP .or (some (.i k a)) (some (.i k b))=eH .or k a b:=by simp [fP,fE]
@[simp] theorem apS:fP .xor (some (.i k a)) (some (.i k b))=eH .xor k a b:=by simp [fP,fE]
@[simp] theorem apM {k':IntKind}:fP .shl (some (.i k a)) (some (.i k' b))=nH .shl k a b:=rfl
@[simp] theorem apN {k':IntKind}:fP .shr (some (.i k a)) (some (.i k' b))=nH .shr k a b:=rfl
end
section
variable {a b:List UInt8}
@[simp] theorem apI:fP .add (some (.s a)) (some (.s b))=if ((a.length+b.length:Nat):Int)<=9223372036854775807 then some (.s (a++b)) else none:=by
 simp only [fP,fE,uo];rfl
@[simp] theorem apJ:fP .eql (some (.s a)) (some (.s b))=some (.b (decide (a=b))):=by
 simp only [fP,fE,uo];congr 2;rw [yP];simp
@[simp] theorem apQ:fP .neq (some (.s a)) (some (.s b))=some (.b (decide (a≠b))):=by
 simp only [fP,fE,uo];congr 2;rw [yP];simp
@[simp] theorem apP:fP .lss (some (.s a)) (some (.s b))=some (.b (Op.bytesLess a b)):=rfl
@[simp] theorem apK:fP .geq (some (.s a)) (some (.s b))=some (.b (!(Op.bytesLess a b))):=rfl
@[simp] theorem apO:fP .leq (some (.s a)) (some (.s b))=some (.b (Op.bytesLess a b || a==b)):=rfl
@[simp] theorem apL:fP .gtr (some (.s a)) (some (.s b))=some (.b (!(Op.bytesLess a b || a==b))):=rfl
end
@[simp] theorem apT {a b:Bool}:QW .eql (some (.b a)) (some (.b b))=some (.b (a==b)):=rfl
@[simp] theorem apU {a b:Bool}:QW .neq (some (.b a)) (some (.b b))=some (.b (!(a==b))):=rfl
@[simp] theorem apV {ks:List Nat} {a b:List GV}:I5 .eql ks (some (.g a)) (some (.g b))=(nS ks a b).bind λr=>some (.b r):=by
 simp only [I5,Fb];cases nS ks a b<;>rfl
@[simp] theorem apW {ks:List Nat} {a b:List GV}:I5 .neq ks (some (.g a)) (some (.g b))=(nS ks a b).bind λr=>some (.b (!r)):=by
 simp only [I5,Fb];cases nS ks a b<;>rfl
@[simp] theorem arY {a:Bool}:Wp .not (some (.b a))=some (.b (!a)):=rfl
@[simp] theorem arX {k:IntKind} {a:Int}:Wp .neg (some (.i k a))=some (.i k (k.wrap (0 - a))):=rfl
@[simp] theorem ap4 {cs:List GV}:(GV.g cs).cells=cs:=rfl
@[simp] theorem ap5 {k:IntKind} {n:Int}:(GV.i k n).cells=[.i k n]:=rfl
@[simp] theorem ap3 {x:Bool}:(GV.b x).cells=[.b x]:=rfl
@[simp] theorem ap7 {x:List UInt8}:(GV.s x).cells=[.s x]:=rfl
@[simp] theorem ap6 {x:List GV}:(GV.l x).cells=[.l x]:=rfl
@[simp] theorem arK {cs:List GV}:(GV.g cs).scalar=false:=rfl
@[simp] theorem arL {k:IntKind} {n:Int}:(GV.i k n).scalar=true:=rfl
@[simp] theorem arJ {x:Bool}:(GV.b x).scalar=true:=rfl
@[simp] theorem arN {x:List UInt8}:(GV.s x).scalar=true:=rfl
@[simp] theorem arM {x:List GV}:(GV.l x).scalar=true:=rfl
theorem bF {Ds:List aI} {k:Nat} {si so:List mQ} {t:Tree} {gs out:List GV} (hk:Ds[k]? = some (.fn si so t)) (hi:kD si gs=true) (h:t.go (vM Ds).lim gs.length (QT gs)=some out) (ho:kD so out=true):(vM Ds).lim k gs=some out:=by
 have h:t.den (vM Ds).lim gs=some out:=(Tree.Ju t gs).symm.trans h;exact DL hk (by simp only [aI.den,ak hi,h,ak ho])
theorem aA {Ds:List aI} {k n:Nat} {t:Tree} {gs out:List GV} (hk:Ds[k]? = some (.tree n t)) (hn:gs.length=n) (h:t.go (vM Ds).lim gs.length (QT gs)=some out):(vM Ds).lim k gs=some out:=by
 have h:t.den (vM Ds).lim gs=some out:=(Tree.Ju t gs).symm.trans h;exact DL hk (by simp only [aI.den,ak hn,h])
theorem Hz {Ds:List aI} {k:Nat} {f:List GV->Option (List GV)} {gs out:List GV} (hk:Ds[k]? = some (.uX f)) (h:f gs=some out):(vM Ds).lim k gs=some out:=
 DL hk h
theorem agQ {gs:List GV} (h:hasArgs [] gs):gs=[]:=by simpa only [hasArgs] using h
theorem wrap64 {n:Int} (h0 : -9223372036854775808<=n) (h1:n<=9223372036854775807):IntKind.i64.wrap n=n:=by
 have:IntKind.i64.wrap n=if n % 18446744073709551616>=9223372036854775808 then n % 18446744073709551616 - 18446744073709551616 else n % 18446744073709551616:=by
  simp [IntKind.wrap,IntKind.signed,IntKind.bits]
 rw [this];split<;>omega
theorem jL {n:Int} (h0:0<=n) (h1:n < 18446744073709551616):IntKind.u64.wrap n=n:=by
 have:IntKind.u64.wrap n=n % 18446744073709551616:=by
  simp [IntKind.wrap,IntKind.signed,IntKind.bits]
 rw [this];omega
end Go.aJ
