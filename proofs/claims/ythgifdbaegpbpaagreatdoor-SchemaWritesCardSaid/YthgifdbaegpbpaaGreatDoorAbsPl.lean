/- Plain laws over trees: values of one's own as ground values; how a tree is gone through. -/
import Derived.Test.YthgifdbaegpbpaaGreatDoorAbsJ
namespace Go.aP
set_option linter.unusedSimpArgs false
theorem Ai {Ds:List aF} {k:Nat} {d:aF} {gs out:List GV} (hk:Ds[k]? = some d) (h:d.den (rY Ds).lim gs=some out):(rY Ds).lim k gs=some out:=fG.ajM hk h
def upd (val:Nat→Option GV) (k:Nat) (g:GV):Nat→Option GV:=fun n=>if n=k then some g else val n
def NK (gs:List GV):Nat→Option GV:=fun n=>gs[n]?
@[simp] theorem arZ {gs:List GV} {n:Nat}:NK gs n=gs[n]?:=rfl
@[simp] theorem upd_same {val:Nat→Option GV} {k:Nat} {g:GV}:upd val k g k=some g:=if_pos rfl
@[simp] theorem upd_ne {val:Nat→Option GV} {k n:Nat} {g:GV} (h:n≠k):upd val k g n=val n:=if_neg h
def Tree.go (I:fH):Tree→Nat→(Nat→Option GV)→Option (List GV)
 | .step nd t,k,val=>match nd.den I val with
  | some g=>t.go I (k+1) (upd val k g)
  | none=>none
 | .ite n t e,k,val=>match val n with
  | some (.b true)=>t.go I k val
  | some (.b false)=>e.go I k val
  | _=>none
 | .ret l,_,val=>valsOf val l
 | .tail f l,_,val=>match valsOf val l with
  | some gs=>I f gs
  | none=>none
 | .dead,_,_=>none
theorem Tree.EW {I:fH}:∀ (t:Tree) (env:List GV),t.go I env.length (fun n=>env[n]?)=t.den I env
 | .step nd t,env=>by
  simp only [Tree.go,Tree.den]
  cases nd.den I fun n=>env[n]? with
  | none=>rfl
  | some g=>
   simp only
   rw [← Tree.EW t (env++[g])]
   congr 1
   ·simp
   ·funext n
    unfold upd
    split
    ·next h=>subst h;simp
    ·next h=>
     show env[n]? = (env++[g])[n]?
     rcases Nat.lt_or_ge n env.length with hl | hl
     ·rw [List.getElem?_append_left hl]
     ·rw [List.getElem?_append_right hl,List.getElem?_eq_none (l:=env) hl,List.getElem?_eq_none]
      simp;omega
 | .ite n t e,env=>by simp only [Tree.go,Tree.den,Tree.EW t env,Tree.EW e env];rfl
 | .ret l,env=>rfl
 | .tail f l,env=>rfl
 | .dead,env=>rfl
def Vj (o:Option GV) (I:fH) (t:Tree) (k:Nat) (val:Nat→Option GV):Option (List GV):=match o with
 | some g=>t.go I (k+1) (upd val k g)
 | none=>none
def YG (o:Option GV) (I:fH) (t e:Tree) (k:Nat) (val:Nat→Option GV):Option (List GV):=match o with
 | some (.b true)=>t.go I k val
 | some (.b false)=>e.go I k val
 | _=>none
section
variable {I:fH} {k:Nat} {val:Nat→Option GV}
@[simp] theorem aft {g:GV} {t:Tree}:Vj (some g) I t k val=t.go I (k+1) (upd val k g):=rfl
@[simp] theorem asJ {c:Bool} {t e:Tree}:YG (some (.b c)) I t e k val=if c=true then t.go I k val else e.go I k val:=by cases c<;>rfl
@[simp] theorem aql {nd:Nd} {t:Tree}:(Tree.step nd t).go I k val=Vj (nd.den I val) I t k val:=rfl
@[simp] theorem auF {n:Nat} {t e:Tree}:(Tree.ite n t e).go I k val=YG (val n) I t e k val:=rfl
@[simp] theorem auG {l:List Nat}:(Tree.ret l).go I k val=valsOf val l:=rfl
@[simp] theorem auE:Tree.dead.go I k val=none:=rfl
@[simp] theorem auH {f:Nat} {l:List Nat}:(Tree.tail f l).go I k val=(valsOf val l).bind (I f):=by
 simp only [Tree.go];cases valsOf val l<;>rfl
end
@[simp] theorem akN {I:fH} {f j:Nat} {l:List Nat} {val:Nat→Option GV}:(Nd.call f l j).den I val=(valsOf val l).bind fun gs=>(I f gs).bind fun r=>r[j]?:=by
 simp only [Nd.den];cases valsOf val l with
 | none=>rfl
 | some gs=>simp only [Option.bind_some];cases I f gs<;>rfl
@[simp] theorem auL {val:Nat→Option GV}:valsOf val []=some []:=rfl
@[simp] theorem aeT {val:Nat→Option GV} {n:Nat} {l:List Nat}:valsOf val (n::l)=(val n).bind fun g=>(valsOf val l).bind fun r=>some (g::r):=by
 simp only [valsOf];cases val n<;>cases valsOf val l<;>rfl
def eY (op:BinOp) (x y:Option GV):Option GV:=match x,y with
 | some a,some b=>fC op a b
 | _,_=>none
def N7 (op:BinOp) (x y:Option GV):Option GV:=match x,y with
 | some a,some b=>Hu op a b
 | _,_=>none
def Em (op:BinOp) (ks:List Nat) (x y:Option GV):Option GV:=match x,y with
 | some a,some b=>BN op ks a b
 | _,_=>none
def MS (op:UnOp) (x:Option GV):Option GV:=match x with
 | some a=>MV op a
 | none=>none
section
variable {I:fH} {val:Nat→Option GV}
@[simp] theorem atS {k:IntKind} {n:Int}:(Nd.ci k n).den I val=some (.i k n):=rfl
@[simp] theorem atP {x:Bool}:(Nd.cb x).den I val=some (.b x):=rfl
@[simp] theorem atU {x:List UInt8}:(Nd.cs x).den I val=some (.s x):=rfl
@[simp] theorem atK {op:BinOp} {a b:Nat}:(Nd.bin op a b).den I val=eY op (val a) (val b):=rfl
@[simp] theorem atM {op:BinOp} {a b:Nat}:(Nd.vM op a b).den I val=N7 op (val a) (val b):=rfl
@[simp] theorem atN {op:BinOp} {ks:List Nat} {a b:Nat}:(Nd.vN op ks a b).den I val=Em op ks (val a) (val b):=rfl
@[simp] theorem auj {op:UnOp} {a:Nat}:(Nd.un op a).den I val=MS op (val a):=rfl
def FD (big:Bool) (x y:Option GV):Option GV:=match x,y with
 | some (.i k x),some (.i k' y)=>if k=k' then some (.i k (if big then (if x < y then y else x) else (if y < x then y else x))) else none
 | _,_=>none
@[simp] theorem aua {g:Bool} {a b:Nat}:(Nd.mm g a b).den I val=FD g (val a) (val b):=rfl
@[simp] theorem atF {k:IntKind} {x y:Int}:FD true (some (.i k x)) (some (.i k y))=some (.i k (if x < y then y else x)):=by simp [FD]
@[simp] theorem atE {k:IntKind} {x y:Int}:FD false (some (.i k x)) (some (.i k y))=some (.i k (if y < x then y else x)):=by simp [FD]
def YI (k:IntKind) (x:Option GV):Option GV:=match x with
 | some (.i _ n)=>some (.i k (k.wrap n))
 | _=>none
@[simp] theorem atT {k:IntKind} {a:Nat}:(Nd.conv k a).den I val=YI k (val a):=rfl
@[simp] theorem asK {k k':IntKind} {n:Int}:YI k (some (.i k' n))=some (.i k (k.wrap n)):=rfl
def len1 (x:Option GV):Option GV:=match x with
 | some (.l xs)=>some (.i .i64 xs.length)
 | _=>none
@[simp] theorem atX {a:Nat}:(Nd.len a).den I val=len1 (val a):=rfl
@[simp] theorem atA {xs:List GV}:len1 (some (.l xs))=some (.i .i64 xs.length):=rfl
def ad8 (x:Option GV):Option GV:=match x with
 | some (.s x)=>some (.i .i64 x.length)
 | _=>none
@[simp] theorem aug {a:Nat}:(Nd.slen a).den I val=ad8 (val a):=rfl
@[simp] theorem auB {x:List UInt8}:ad8 (some (.s x))=some (.i .i64 x.length):=rfl
def SH (x i:Option GV):Option GV:=match x,i with
 | some (.s x),some (.i _ k)=>if 0≤k then match x[k.toNat]? with
  | some c=>some (.i .u8 c.toNat)
  | none=>none
  else none
 | _,_=>none
@[simp] theorem auf {a i:Nat}:(Nd.nT a i).den I val=SH (val a) (val i):=rfl
@[simp] theorem auA {x:List UInt8} {kk:IntKind} {k:Int}:SH (some (.s x)) (some (.i kk k))=if 0≤k then (x[k.toNat]?).bind fun c=>some (.i .u8 c.toNat) else none:=by
 simp only [SH];split
 ·cases x[k.toNat]?<;>rfl
 ·rfl
def aeg (x lo hi:Option GV):Option GV:=match x,lo,hi with
 | some (.s x),some (.i _ l),some (.i _ h)=>if 0≤l∧l≤h∧h≤x.length then some (.s ((x.take h.toNat).drop l.toNat)) else none
 | _,_,_=>none
@[simp] theorem auh {a l h:Nat}:(Nd.vg a l h).den I val=aeg (val a) (val l) (val h):=rfl
def acw (z m k:Option GV):Option GV:=match z,m,k with
 | some d,some (.l xs),some g=>some ((lX g xs).getD d)
 | _,_,_=>none
def acy (m k:Option GV):Option GV:=match m,k with
 | some (.l xs),some g=>some (.b (lX g xs).isSome)
 | _,_=>none
def acz (m k v:Option GV):Option GV:=match m,k,v with
 | some (.l xs),some g,some u=>some (.l (rO g u xs))
 | _,_,_=>none
@[simp] theorem atZ {z m k:Nat}:(Nd.yG z m k).den I val=acw (val z) (val m) (val k):=rfl
@[simp] theorem at1 {m k:Nat}:(Nd.Ap m k).den I val=acy (val m) (val k):=rfl
@[simp] theorem aub {m k v:Nat}:(Nd.uS m k v).den I val=acz (val m) (val k) (val v):=rfl
@[simp] theorem atC {d g:GV} {xs:List GV}:acw (some d) (some (.l xs)) (some g)=some ((lX g xs).getD d):=rfl
@[simp] theorem atD {g:GV} {xs:List GV}:acy (some (.l xs)) (some g)=some (.b (lX g xs).isSome):=rfl
@[simp] theorem atG {g u:GV} {xs:List GV}:acz (some (.l xs)) (some g) (some u)=some (.l (rO g u xs)):=rfl
@[simp] theorem auD {x:List UInt8} {k k':IntKind} {l h:Int}:aeg (some (.s x)) (some (.i k l)) (some (.i k' h))=if 0≤l∧l≤h∧h≤x.length then some (.s ((x.take h.toNat).drop l.toNat)) else none:=rfl
def ab6 (size:Nat) (x lo hi:Option GV):Option GV:=match x,lo,hi with
 | some (.l xs),some (.i _ l),some (.i _ h)=>if 0≤l∧l≤h∧h≤xs.length∧(xs.all fun x=>Nat.beq x.cells.length size)=true then some (.l ((xs.take h.toNat).drop l.toNat)) else none
 | _,_,_=>none
@[simp] theorem atY {s a l h:Nat}:(Nd.mQ s a l h).den I val=ab6 s (val a) (val l) (val h):=rfl
@[simp] theorem atB {s:Nat} {xs:List GV} {k k':IntKind} {l h:Int}:ab6 s (some (.l xs)) (some (.i k l)) (some (.i k' h))=if 0≤l∧l≤h∧h≤xs.length∧(xs.all fun x=>Nat.beq x.cells.length s)=true then some (.l ((xs.take h.toNat).drop l.toNat)) else none:=rfl
def abp (x i:Option GV):Option GV:=match x,i with
 | some (.l xs),some (.i _ k)=>if 0≤k∧k < xs.length then some (.i .i64 k) else none
 | _,_=>none
@[simp] theorem atV {a i:Nat}:(Nd.idx a i).den I val=abp (val a) (val i):=rfl
@[simp] theorem atz {xs:List GV} {kk:IntKind} {k:Int}:abp (some (.l xs)) (some (.i kk k))=if 0≤k∧k < xs.length then some (.i .i64 k) else none:=rfl
def at2 (size:Nat) (x i:Option GV):Option GV:=match x,i with
 | some (.l xs),some (.i _ k)=>if 0≤k then match xs[k.toNat]? with
  | some x=>if x.cells.length=size then some x else none
  | none=>none
  else none
 | _,_=>none
@[simp] theorem atJ {s a i:Nat}:(Nd.at s a i).den I val=at2 s (val a) (val i):=rfl
@[simp] theorem ar0 {s:Nat} {xs:List GV} {kk:IntKind} {k:Int}:at2 s (some (.l xs)) (some (.i kk k))=if 0≤k then (xs[k.toNat]?).bind fun x=>if x.cells.length=s then some x else none else none:=by
 simp only [at2];split
 ·cases xs[k.toNat]?<;>rfl
 ·rfl
def cell1 (off:Nat) (x:Option GV):Option GV:=match x with
 | some g=>match g.cells[off]? with
  | some c=>if c.scalar then some c else none
  | none=>none
 | none=>none
@[simp] theorem atQ {o a:Nat}:(Nd.cell o a).den I val=cell1 o (val a):=rfl
@[simp] theorem asD {o:Nat} {g:GV}:cell1 o (some g)=(g.cells[o]?).bind fun c=>if c.scalar=true then some c else none:=by
 simp only [cell1];cases g.cells[o]?<;>rfl
@[simp] theorem at6 {l:List Nat}:(Nd.mk l).den I val=(valsOf val l).bind fun gs=>if gs.all GV.scalar=true then some (.g gs) else none:=by
 simp only [Nd.den];cases valsOf val l<;>rfl
@[simp] theorem at7 {l:List Nat}:(Nd.ml l).den I val=(valsOf val l).bind fun gs=>some (.l gs):=by
 simp only [Nd.den];cases valsOf val l<;>rfl
def Uj (size bs:Nat) (x y:Option GV):Option GV:=match x,y with
 | some (.l xs),some (.l ys)=>if ys.all (GV.gJ size)=true∧2 * (xs.length+ys.length) * bs≤2 ^ 48∧xs.length+ys.length≤2 ^ 48 then some (.l (xs++ys)) else none
 | _,_=>none
@[simp] theorem atH {z s a b:Nat}:(Nd.app z s a b).den I val=Uj z s (val a) (val b):=rfl
@[simp] theorem arY {z s:Nat} {xs ys:List GV}:Uj z s (some (.l xs)) (some (.l ys))=if ys.all (GV.gJ z)=true∧2 * (xs.length+ys.length) * s≤2 ^ 48∧xs.length+ys.length≤2 ^ 48 then some (.l (xs++ys)) else none:=rfl
def TF (size off:Nat) (x i:Option GV) (vs:Option (List GV)):Option GV:=match x,i,vs with
 | some (.l xs),some (.i _ k),some gs=>if 0≤k∧gs.all GV.scalar=true then match xs[k.toNat]? with
  | some x=>if x.cells.length=size then (x.put off gs).map fun y=>.l (xs.set k.toNat y) else none
  | none=>none
  else none
 | _,_,_=>none
@[simp] theorem auk {s o a i:Nat} {vs:List Nat}:(Nd.upd s o a i vs).den I val=TF s o (val a) (val i) (valsOf val vs):=rfl
@[simp] theorem auK {s o:Nat} {xs:List GV} {kk:IntKind} {k:Int} {gs:List GV}:TF s o (some (.l xs)) (some (.i kk k)) (some gs)=if 0≤k∧gs.all GV.scalar=true then (xs[k.toNat]?).bind fun x=>if x.cells.length=s then (x.put o gs).map fun y=>.l (xs.set k.toNat y) else none else none:=by
 simp only [TF];split
 ·cases xs[k.toNat]?<;>rfl
 ·rfl
@[simp] theorem aup {k:IntKind} {n:Int} {v:GV}:(GV.i k n).put 0 [v]=some v:=rfl
def adg (size N8:Nat) (z l c:Option GV):Option GV:=match z,l,c with
 | some x,some (.i _ n),some (.i _ m)=>if 0≤n∧n≤m∧N8 * m≤2 ^ 48∧m≤2 ^ 60∧x.gJ size=true then some (.l (List.replicate n.toNat x)) else none
 | _,_,_=>none
@[simp] theorem auc {s b z l c:Nat}:(Nd.rep s b z l c).den I val=adg s b (val z) (val l) (val c):=rfl
@[simp] theorem auq {s b:Nat} {x:GV} {k k':IntKind} {n m:Int}:adg s b (some x) (some (.i k n)) (some (.i k' m))=if 0≤n∧n≤m∧b * m≤2 ^ 48∧m≤2 ^ 60∧x.gJ s=true then some (.l (List.replicate n.toNat x)) else none:=by
 cases x<;>rfl
@[simp] theorem atO {a:Nat}:(Nd.bytes a).den I val=(val a).bind fun g=>match g with | .s x=>some (.l (dJ x)) | _=>none:=by
 simp only [Nd.den];cases val a with
 | none=>rfl
 | some g=>cases g<;>rfl
@[simp] theorem aui {a:Nat}:(Nd.str a).den I val=(val a).bind fun g=>match g with | .l xs=>if xs.length≤2 ^ 48 then (jc xs).map .s else none | _=>none:=by
 simp only [Nd.den];cases val a with
 | none=>rfl
 | some g=>cases g<;>rfl
@[simp] theorem aud {a b:Nat}:(Nd.same a b).den I val=(val a).bind fun g=>(val b).bind fun h=>match g,h with | .l xs,.l ys=>if ys.length=xs.length then some (.l ys) else none | _,_=>none:=by
 simp only [Nd.den];cases val a with
 | none=>rfl
 | some g=>cases val b with
  | none=>cases g<;>rfl
  | some h=>cases g<;>cases h<;>rfl
@[simp] theorem atW {a j:Nat}:(Nd.uP a j).den I val=(val a).bind fun g=>match g with | .i _ m=>some (.b (decide (m=(j:Int)))) | _=>none:=by
 simp only [Nd.den];cases val a with
 | none=>rfl
 | some g=>cases g<;>rfl
@[simp] theorem aue {a:Nat}:(Nd.Bc a).den I val=(val a).bind fun g=>match g with | .s x=>some (.s x) | _=>none:=by
 simp only [Nd.den];cases val a with
 | none=>rfl
 | some g=>cases g<;>rfl
end
section
variable {k:IntKind} {a b:Int}
@[simp] theorem ar1:eY .add (some (.i k a)) (some (.i k b))=some (.i k (k.wrap (a+b))):=by simp [eY,fC,bK]
@[simp] theorem asq:eY .sub (some (.i k a)) (some (.i k b))=some (.i k (k.wrap (a - b))):=by simp [eY,fC,bK]
@[simp] theorem ar9:eY .mul (some (.i k a)) (some (.i k b))=some (.i k (k.wrap (a * b))):=by simp [eY,fC,bK]
@[simp] theorem asc:eY .quo (some (.i k a)) (some (.i k b))=if b=0 then none else some (.i k (k.wrap (a.tdiv b))):=by simp [eY,fC,bK]
@[simp] theorem ase:eY .rem (some (.i k a)) (some (.i k b))=if b=0 then none else some (.i k (a.tmod b)):=by simp [eY,fC,bK]
@[simp] theorem ar4:eY .eql (some (.i k a)) (some (.i k b))=some (.b (decide (a=b))):=by
 simp only [eY,fC,bK,if_true];rw [show (a==b)=decide (a=b) from rfl]
@[simp] theorem asa:eY .neq (some (.i k a)) (some (.i k b))=some (.b (decide (a≠b))):=by
 simp only [eY,fC,bK,if_true,bne];rw [show (a==b)=decide (a=b) from rfl,← decide_not]
@[simp] theorem ar8:eY .lss (some (.i k a)) (some (.i k b))=some (.b (decide (a < b))):=by simp [eY,fC,bK]
@[simp] theorem ar7:eY .leq (some (.i k a)) (some (.i k b))=some (.b (decide (a≤b))):=by simp [eY,fC,bK]
@[simp] theorem ar6:eY .gtr (some (.i k a)) (some (.i k b))=some (.b (decide (b < a))):=by simp [eY,fC,bK]
@[simp] theorem ar5:eY .geq (some (.i k a)) (some (.i k b))=some (.b (decide (b≤a))):=by simp [eY,fC,bK]
@[simp] theorem ar2:eY .and (some (.i k a)) (some (.i k b))=bK .and k a b:=by simp [eY,fC]
@[simp] theorem asb:eY .or (some (.i k a)) (some (.i k b))=bK .or k a b:=by simp [eY,fC]
@[simp] theorem asr:eY .xor (some (.i k a)) (some (.i k b))=bK .xor k a b:=by simp [eY,fC]
@[simp] theorem asi {k':IntKind}:eY .shl (some (.i k a)) (some (.i k' b))=nS .shl k a b:=rfl
@[simp] theorem asj {k':IntKind}:eY .shr (some (.i k a)) (some (.i k' b))=nS .shr k a b:=rfl
end
section
variable {a b:List UInt8}
@[simp] theorem NZ:eY .add (some (.s a)) (some (.s b))=if ((a.length+b.length:Nat):Int)≤9223372036854775807 then some (.s (a++b)) else none:=by
 simp only [eY,fC,qE];rfl
@[simp] theorem asf:eY .eql (some (.s a)) (some (.s b))=some (.b (decide (a=b))):=by
 simp only [eY,fC,qE];congr 2;rw [Bool.eq_iff_iff];simp
@[simp] theorem aso:eY .neq (some (.s a)) (some (.s b))=some (.b (decide (a≠b))):=by
 simp only [eY,fC,qE];congr 2;rw [Bool.eq_iff_iff];simp
@[simp] theorem asn:eY .lss (some (.s a)) (some (.s b))=some (.b (Op.bytesLess a b)):=rfl
@[simp] theorem asg:eY .geq (some (.s a)) (some (.s b))=some (.b (!(Op.bytesLess a b))):=rfl
@[simp] theorem asl:eY .leq (some (.s a)) (some (.s b))=some (.b (Op.bytesLess a b || a==b)):=rfl
@[simp] theorem ash:eY .gtr (some (.s a)) (some (.s b))=some (.b (!(Op.bytesLess a b || a==b))):=rfl
end
@[simp] theorem asu {a b:Bool}:N7 .eql (some (.b a)) (some (.b b))=some (.b (a==b)):=rfl
@[simp] theorem asv {a b:Bool}:N7 .neq (some (.b a)) (some (.b b))=some (.b (!(a==b))):=rfl
@[simp] theorem asw {ks:List Nat} {a b:List GV}:Em .eql ks (some (.g a)) (some (.g b))=(kL ks a b).bind fun r=>some (.b r):=by
 simp only [Em,BN];cases kL ks a b<;>rfl
@[simp] theorem asx {ks:List Nat} {a b:List GV}:Em .neq ks (some (.g a)) (some (.g b))=(kL ks a b).bind fun r=>some (.b (!r)):=by
 simp only [Em,BN];cases kL ks a b<;>rfl
@[simp] theorem auJ {a:Bool}:MS .not (some (.b a))=some (.b (!a)):=rfl
@[simp] theorem auI {k:IntKind} {a:Int}:MS .neg (some (.i k a))=some (.i k (k.wrap (0 - a))):=rfl
@[simp] theorem Oh {cs:List GV}:(GV.g cs).cells=cs:=rfl
@[simp] theorem asF {k:IntKind} {n:Int}:(GV.i k n).cells=[.i k n]:=rfl
@[simp] theorem asE {x:Bool}:(GV.b x).cells=[.b x]:=rfl
@[simp] theorem asH {x:List UInt8}:(GV.s x).cells=[.s x]:=rfl
@[simp] theorem asG {x:List GV}:(GV.l x).cells=[.l x]:=rfl
@[simp] theorem auv {cs:List GV}:(GV.g cs).scalar=false:=rfl
@[simp] theorem auw {k:IntKind} {n:Int}:(GV.i k n).scalar=true:=rfl
@[simp] theorem auu {x:Bool}:(GV.b x).scalar=true:=rfl
@[simp] theorem auz {x:List UInt8}:(GV.s x).scalar=true:=rfl
@[simp] theorem auy {x:List GV}:(GV.l x).scalar=true:=rfl
theorem aG {Ds:List aF} {k:Nat} {si so:List nU} {t:Tree} {gs out:List GV} (hk:Ds[k]? = some (.fn si so t)) (hi:lC si gs=true) (h:t.go (rY Ds).lim gs.length (NK gs)=some out) (ho:lC so out=true):(rY Ds).lim k gs=some out:=by
 have h:t.den (rY Ds).lim gs=some out:=(Tree.EW t gs).symm.trans h
 exact Ai hk (by simp only [aF.den,if_pos hi,h,if_pos ho])
theorem aA {Ds:List aF} {k n:Nat} {t:Tree} {gs out:List GV} (hk:Ds[k]? = some (.tree n t)) (hn:gs.length=n) (h:t.go (rY Ds).lim gs.length (NK gs)=some out):(rY Ds).lim k gs=some out:=by
 have h:t.den (rY Ds).lim gs=some out:=(Tree.EW t gs).symm.trans h
 exact Ai hk (by simp only [aF.den,if_pos hn,h])
theorem FW {Ds:List aF} {k:Nat} {f:List GV→Option (List GV)} {gs out:List GV} (hk:Ds[k]? = some (.wX f)) (h:f gs=some out):(rY Ds).lim k gs=some out:=
 Ai hk h
theorem aiL {gs:List GV} (h:hasArgs [] gs):gs=[]:=by simpa only [hasArgs] using h
theorem aiK {l:List bD} {r:List (Bool×List bD)} {gs:List GV} (h:hasArgs ((true,l)::r) gs):∃cs gs',gs=.g cs::gs'∧bD.fO l cs∧hasArgs r gs':=by
 simp only [hasArgs] at h
 obtain ⟨g,gs',rfl,h1,h2,h3⟩:=h
 cases g<;>simp [GV.scalar] at h2
 exact ⟨_,_,rfl,h1,h3⟩
theorem fV {t:bD} {l:List bD} {gs:List GV} (h:bD.fO (t::l) gs):∃g r,gs=g::r∧t.has g∧bD.fO l r:=by simpa only [bD.fO] using h
theorem EZ {gs:List GV} (h:bD.fO [] gs):gs=[]:=by simpa only [bD.fO] using h
theorem aiM {t:bD} {r:List (Bool×List bD)} {gs:List GV} (h:hasArgs ((false,[t])::r) gs):∃g gs',gs=g::gs'∧t.has g∧hasArgs r gs':=by
 simp only [hasArgs] at h
 obtain ⟨g,gs',rfl,h1,h2,h3⟩:=h
 refine ⟨_,_,rfl, ?_,h3⟩
 obtain ⟨g0,r0,e,h4,h5⟩:=fV h1
 cases g<;>simp [GV.scalar] at h2<;>simp only [GV.cells,List.cons.injEq] at e<;>rw [e.1]<;>exact h4
theorem mM {g:GV} (h:(bD.int .u64).has g):∃n,g=.i .u64 n∧0≤n∧n < 18446744073709551616:=by
 simp only [bD.has] at h
 obtain ⟨n,rfl,h1,h2⟩:=h
 exact ⟨n,rfl,by simpa [IntKind.min,IntKind.signed] using h1,by simp [IntKind.max,IntKind.signed,IntKind.bits] at h2;omega⟩
theorem yu {g:GV} (h:bD.str.has g):∃s,g=.s s∧s.length≤reachBytes:=by simpa only [bD.has] using h
theorem I4 {b:Bool} {e:List bD} {g:GV} (h:(bD.list b e).has g):∃xs,g=.l xs∧xs.length≤reachBytes∧∀x∈xs,bD.fO e x.cells∧x.scalar = !b:=by simpa only [bD.has] using h
theorem Fq {α:Type} {f:α→GV} {p:α→Prop}:∀ {xs:List GV},(∀x∈xs,∃r,p r∧x=f r)→∃rs:List α,(∀r∈rs,p r)∧xs=rs.map f
 | [],_=>⟨[],by simp,rfl⟩
 | x::xs,h=>by
  obtain ⟨r,h1,h2⟩:=h x (by simp)
  obtain ⟨rs,h3,h4⟩:=Fq (xs:=xs) fun y hy=>h y (by simp [hy])
  refine ⟨r::rs,fun q hq=>?_,by rw [h2,h4];rfl⟩
  rcases List.mem_cons.1 hq with rfl | hq
  ·exact h1
  ·exact h3 q hq
theorem wrap64 {n:Int} (h0 : -9223372036854775808≤n) (h1:n≤9223372036854775807):IntKind.i64.wrap n=n:=by
 have:IntKind.i64.wrap n=if n % 18446744073709551616≥9223372036854775808 then n % 18446744073709551616 - 18446744073709551616 else n % 18446744073709551616:=by
  simp [IntKind.wrap,IntKind.signed,IntKind.bits]
 rw [this];split<;>omega
theorem fU {n:Int} (h0:0≤n) (h1:n < 18446744073709551616):IntKind.u64.wrap n=n:=by
 have:IntKind.u64.wrap n=n % 18446744073709551616:=by
  simp [IntKind.wrap,IntKind.signed,IntKind.bits]
 rw [this];omega
end Go.aP
