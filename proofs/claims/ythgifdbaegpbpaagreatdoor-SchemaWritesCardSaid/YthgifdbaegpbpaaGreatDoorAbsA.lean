/- Ground values, and the nodes by which a symbolic run names them. -/
import Derived.Calls
import Derived.Below
import Derived.Orders
import Derived.LoopN
import Derived.KernelRfl
import Derived.Laws.Strings
import Derived.WalkKit
namespace Go.aP
noncomputable section
inductive GV where
 | b (x:Bool)
 | i (k:IntKind) (n:Int)
 | s (x:List UInt8)
 | l (xs:List GV)
 | g (cs:List GV)
 deriving Inhabited
def GV.cells:GV→List GV
 | .g cs=>cs
 | v=>[v]
def GV.scalar:GV→Bool
 | .g _=>false
 | _=>true
def GV.gJ (size:Nat) (g:GV):Bool:=Nat.beq g.cells.length size&&g.cells.all GV.scalar
def bK (op:BinOp) (k:IntKind) (a b:Int):Option GV:=
 match op with
 | .add=>some (.i k (k.wrap (a+b)))
 | .sub=>some (.i k (k.wrap (a - b)))
 | .mul=>some (.i k (k.wrap (a * b)))
 | .quo=>if b=0 then none else some (.i k (k.wrap (a.tdiv b)))
 | .rem=>if b=0 then none else some (.i k (a.tmod b))
 | .and=>some (.i k (k.wrap (BitVec.ofInt k.bits a &&& BitVec.ofInt k.bits b).toNat))
 | .or=>some (.i k (k.wrap (BitVec.ofInt k.bits a ||| BitVec.ofInt k.bits b).toNat))
 | .xor=>some (.i k (k.wrap (BitVec.ofInt k.bits a ^^^ BitVec.ofInt k.bits b).toNat))
 | .andNot=>some (.i k (k.wrap (BitVec.ofInt k.bits a &&& ~~~ BitVec.ofInt k.bits b).toNat))
 | .eql=>some (.b (a==b))
 | .neq=>some (.b (a != b))
 | .lss=>some (.b (decide (a < b)))
 | .leq=>some (.b (decide (a≤b)))
 | .gtr=>some (.b (decide (a > b)))
 | .geq=>some (.b (decide (a≥b)))
 | _=>none
def nS (op:BinOp) (k:IntKind) (a b:Int):Option GV:=
 if b < 0 then none else
 match op with
 | .shl=>some (.i k (k.wrap (a * 2 ^ (min b.toNat k.bits))))
 | .shr=>some (.i k (a.fdiv (2 ^ (min b.toNat k.bits))))
 | _=>none
def qE (op:BinOp) (a b:List UInt8):Option GV:=
 match op with
 | .add=>if ((a.length+b.length:Nat):Int)≤IntKind.i64.max then some (.s (a++b)) else none
 | .eql=>some (.b (a==b))
 | .neq=>some (.b (!(a==b)))
 | .lss=>some (.b (Op.bytesLess a b))
 | .leq=>some (.b (Op.bytesLess a b || a==b))
 | .gtr=>some (.b (!(Op.bytesLess a b || a==b)))
 | .geq=>some (.b (!(Op.bytesLess a b)))
 | _=>none
def kL:List Nat→List GV→List GV→Option Bool
 | [],[],[]=>some true
 | 0::ks,.i k a::l,.i k' b::m=>if k=k' then (kL ks l m).map ((a==b)&&·) else none
 | 1::ks,.s a::l,.s b::m=>(kL ks l m).map ((a==b)&&·)
 | 2::ks,.b a::l,.b b::m=>(kL ks l m).map ((a==b)&&·)
 | _,_,_=>none
def fC (op:BinOp):GV→GV→Option GV
 | .i k a,.i k' b=>match op with
   | .shl=>nS .shl k a b
   | .shr=>nS .shr k a b
   | op=>if k=k' then bK op k a b else none
 | .s a,.s b=>qE op a b
 | _,_=>none
def Hu (op:BinOp):GV→GV→Option GV
 | .b a,.b b=>match op with
   | .eql=>some (.b (a==b))
   | .neq=>some (.b (!(a==b)))
   | _=>none
 | _,_=>none
def BN (op:BinOp) (ks:List Nat):GV→GV→Option GV
 | .g a,.g b=>match op with
   | .eql=>(kL ks a b).map .b
   | .neq=>(kL ks a b).map fun r=>.b (!r)
   | _=>none
 | _,_=>none
def MV (op:UnOp):GV→Option GV
 | .b a=>match op with
   | .not=>some (.b (!a))
   | _=>none
 | .i k n=>match op with
   | .neg=>some (.i k (k.wrap (0 - n)))
   | .xor=>bK .xor k (if k.signed then -1 else k.max) n
   | _=>none
 | _=>none
def jc:List GV→Option (List UInt8)
 | []=>some []
 | .i .u8 n::rest=>if 0≤n∧n < 256 then (jc rest).map (UInt8.ofNat n.toNat::·) else none
 | _::_=>none
def dJ (s:List UInt8):List GV:=s.map fun b=>.i .u8 b.toNat
inductive Nd where
 | arg
 | ci (k:IntKind) (n:Int)
 | cb (x:Bool)
 | cs (x:List UInt8)
 | bin (op:BinOp) (a b:Nat)
 | vM (op:BinOp) (a b:Nat)
 | vN (op:BinOp) (ks:List Nat) (a b:Nat)
 | un (op:UnOp) (a:Nat)
 | mm (big:Bool) (a b:Nat)
 | conv (k:IntKind) (a:Nat)
 | len (a:Nat)
 | slen (a:Nat)
 | nT (a i:Nat)
 | vg (a lo hi:Nat)
 | mQ (size a lo hi:Nat)
 | idx (a i:Nat)
 | at (size a i:Nat)
 | cell (off a:Nat)
 | mk (l:List Nat)
 | ml (l:List Nat)
 | app (size bytes a b:Nat)
 | upd (size off a i:Nat) (vs:List Nat)
 | rep (size bytes z l c:Nat)
 | bytes (a:Nat)
 | str (a:Nat)
 | Bc (a:Nat)
 | same (a b:Nat)
 | uP (a j:Nat)
 | call (f:Nat) (l:List Nat) (j:Nat)
 | yG (z m k:Nat)
 | Ap (m k:Nat)
 | uS (m k v:Nat)
 deriving Inhabited
def yB:GV→GV→Bool
 | .i k a,.i k' b=>Nat.beq (IntKind.casesOn k 0 1 2 3 4 5 6 7) (IntKind.casesOn k' 0 1 2 3 4 5 6 7)&&a==b
 | .s a,.s b=>a==b
 | _,_=>false
def lX (k:GV):List GV→Option GV
 | []=>none
 | .g [a,v]::l=>if yB k a=true then some v else lX k l
 | _::l=>lX k l
def rO (k v:GV):List GV→List GV
 | []=>[.g [k,v]]
 | .g [a,u]::l=>if yB k a=true then .g [k,v]::l else .g [a,u]::rO k v l
 | x::l=>x::rO k v l
def valsOf (val:Nat→Option GV):List Nat→Option (List GV)
 | []=>some []
 | n::l=>match val n,valsOf val l with
   | some g,some r=>some (g::r)
   | _,_=>none
def GV.int:GV→Option Int
 | .i _ n=>some n
 | _=>none
def putCells (cs:List GV) (off:Nat) (vs:List GV):Option (List GV):=
 if off+vs.length≤cs.length then some (cs.take off++vs++cs.drop (off+vs.length)) else none
def GV.put (x:GV) (off:Nat) (vs:List GV):Option GV:=
 match x with
 | .g cs=>(putCells cs off vs).map .g
 | _=>match off,vs with
   | 0,[v]=>some v
   | _,_=>none
def Nd.den (I:Nat→List GV→Option (List GV)) (val:Nat→Option GV):Nd→Option GV
 | .arg=>none
 | .ci k n=>some (.i k n)
 | .cb x=>some (.b x)
 | .cs x=>some (.s x)
 | .bin op a b=>match val a,val b with
   | some x,some y=>fC op x y
   | _,_=>none
 | .vM op a b=>match val a,val b with
   | some x,some y=>Hu op x y
   | _,_=>none
 | .vN op ks a b=>match val a,val b with
   | some x,some y=>BN op ks x y
   | _,_=>none
 | .un op a=>match val a with
   | some x=>MV op x
   | none=>none
 | .mm big a b=>match val a,val b with
   | some (.i k x),some (.i k' y)=>if k=k' then some (.i k (if big then (if x < y then y else x) else (if y < x then y else x))) else none
   | _,_=>none
 | .conv k a=>match val a with
   | some (.i _ n)=>some (.i k (k.wrap n))
   | _=>none
 | .len a=>match val a with
   | some (.l xs)=>some (.i .i64 xs.length)
   | _=>none
 | .slen a=>match val a with
   | some (.s x)=>some (.i .i64 x.length)
   | _=>none
 | .nT a i=>match val a,val i with
   | some (.s x),some (.i _ k)=>if 0≤k then match x[k.toNat]? with
     | some c=>some (.i .u8 c.toNat)
     | none=>none
     else none
   | _,_=>none
 | .vg a lo hi=>match val a,val lo,val hi with
   | some (.s x),some (.i _ l),some (.i _ h)=>if 0≤l∧l≤h∧h≤x.length then some (.s ((x.take h.toNat).drop l.toNat)) else none
   | _,_,_=>none
 | .mQ size a lo hi=>match val a,val lo,val hi with
   | some (.l xs),some (.i _ l),some (.i _ h)=>
     if 0≤l∧l≤h∧h≤xs.length∧(xs.all fun x=>Nat.beq x.cells.length size)=true then some (.l ((xs.take h.toNat).drop l.toNat)) else none
   | _,_,_=>none
 | .idx a i=>match val a,val i with
   | some (.l xs),some (.i _ k)=>if 0≤k∧k < xs.length then some (.i .i64 k) else none
   | _,_=>none
 | .at size a i=>match val a,val i with
   | some (.l xs),some (.i _ k)=>if 0≤k then match xs[k.toNat]? with
     | some x=>if x.cells.length=size then some x else none
     | none=>none
     else none
   | _,_=>none
 | .cell off a=>match val a with
   | some g=>match g.cells[off]? with
     | some c=>if c.scalar then some c else none
     | none=>none
   | none=>none
 | .mk l=>match valsOf val l with
   | some gs=>if gs.all GV.scalar then some (.g gs) else none
   | none=>none
 | .ml l=>(valsOf val l).map .l
 | .app size bs a b=>match val a,val b with
   | some (.l xs),some (.l ys)=>
     if ys.all (GV.gJ size)=true∧2 * (xs.length+ys.length) * bs≤2 ^ 48∧xs.length+ys.length≤2 ^ 48 then some (.l (xs++ys)) else none
   | _,_=>none
 | .upd size off a i vs=>match val a,val i,valsOf val vs with
   | some (.l xs),some (.i _ k),some gs=>
     if 0≤k∧gs.all GV.scalar=true then match xs[k.toNat]? with
     | some x=>if x.cells.length=size then (x.put off gs).map fun y=>.l (xs.set k.toNat y) else none
     | none=>none
     else none
   | _,_,_=>none
 | .rep size N8 z l c=>match val z,val l,val c with
   | some x,some (.i _ n),some (.i _ m)=>
     if 0≤n∧n≤m∧N8 * m≤2 ^ 48∧m≤2 ^ 60∧x.gJ size=true then some (.l (List.replicate n.toNat x)) else none
   | _,_,_=>none
 | .bytes a=>match val a with
   | some (.s x)=>some (.l (dJ x))
   | _=>none
 | .str a=>match val a with
   | some (.l xs)=>if xs.length≤2 ^ 48 then (jc xs).map .s else none
   | _=>none
 | .Bc a=>match val a with
   | some (.s x)=>some (.s x)
   | _=>none
 | .same a b=>match val a,val b with
   | some (.l xs),some (.l ys)=>if ys.length=xs.length then some (.l ys) else none
   | _,_=>none
 | .uP a j=>match val a with
   | some (.i _ m)=>some (.b (decide (m=(j:Int))))
   | _=>none
 | .call f l j=>match valsOf val l with
   | some gs=>match I f gs with
     | some r=>r[j]?
     | none=>none
   | none=>none
 | .yG z m k=>match val z,val m,val k with
   | some d,some (.l xs),some g=>some ((lX g xs).getD d)
   | _,_,_=>none
 | .Ap m k=>match val m,val k with
   | some (.l xs),some g=>some (.b (lX g xs).isSome)
   | _,_=>none
 | .uS m k v=>match val m,val k,val v with
   | some (.l xs),some g,some u=>some (.l (rO g u xs))
   | _,_,_=>none
def oQ (o:BinOp):Nat:=BinOp.casesOn o 0 1 2 3 4 5 6 7 8 9 10 11 12 13 14 15 16
theorem ak2 {o o':BinOp} (h:Nat.beq (oQ o) (oQ o')=true):o=o':=by
 cases o<;>cases o'<;>first | rfl | (simp [oQ] at h)
def Bl (o:UnOp):Nat:=UnOp.casesOn o 0 1 2 3
theorem aqV {o o':UnOp} (h:Nat.beq (Bl o) (Bl o')=true):o=o':=by
 cases o<;>cases o'<;>first | rfl | (simp [Bl] at h)
def kc (k:IntKind):Nat:=IntKind.casesOn k 0 1 2 3 4 5 6 7
theorem Je {o o':IntKind} (h:Nat.beq (kc o) (kc o')=true):o=o':=by
 cases o<;>cases o'<;>first | rfl | (simp [kc] at h)
def qN:List Nat→List Nat→Bool
 | [],[]=>true
 | a::l,b::m=>Nat.beq a b&&qN l m
 | _,_=>false
theorem QG:∀ {l m:List Nat},qN l m=true→l=m
 | [],[],_=>rfl
 | a::l,b::m,h=>by
   simp only [qN,Bool.and_eq_true] at h
   rw [Nat.eq_of_beq_eq_true h.1,QG h.2]
 | [],_::_,h=>by simp [qN] at h
 | _::_,[],h=>by simp [qN] at h
def uF:List UInt8→List UInt8→Bool
 | [],[]=>true
 | a::l,b::m=>Nat.beq a.toNat b.toNat&&uF l m
 | _,_=>false
theorem Ob:∀ {l m:List UInt8},uF l m=true→l=m
 | [],[],_=>rfl
 | a::l,b::m,h=>by
   simp only [uF,Bool.and_eq_true] at h
   rw [UInt8.toNat_inj.1 (Nat.eq_of_beq_eq_true h.1),Ob h.2]
 | [],_::_,h=>by simp [uF] at h
 | _::_,[],h=>by simp [uF] at h
def Ae (a b:Int):Bool:=match a,b with
 | .ofNat m,.ofNat n=>Nat.beq m n
 | .negSucc m,.negSucc n=>Nat.beq m n
 | _,_=>false
theorem abt {a b:Int} (h:Ae a b=true):a=b:=by
 unfold Ae at h;split at h
 ·rw [Nat.eq_of_beq_eq_true h]
 ·rw [Nat.eq_of_beq_eq_true h]
 ·cases h
def Nd.eq (x y:Nd):Bool:=
 match x with
 | .arg=>false
 | .ci k n=>match y with | .ci k' n'=>Nat.beq (kc k) (kc k')&&Ae n n' | _=>false
 | .cb b=>match y with | .cb b'=>(bif b then b' else !b') | _=>false
 | .cs s=>match y with | .cs s'=>uF s s' | _=>false
 | .bin op a b=>match y with | .bin op' a' b'=>Nat.beq a a'&&Nat.beq b b'&&Nat.beq (oQ op) (oQ op') | _=>false
 | .vM op a b=>match y with | .vM op' a' b'=>Nat.beq a a'&&Nat.beq b b'&&Nat.beq (oQ op) (oQ op') | _=>false
 | .vN op ks a b=>match y with | .vN op' ks' a' b'=>Nat.beq a a'&&Nat.beq b b'&&Nat.beq (oQ op) (oQ op')&&qN ks ks' | _=>false
 | .un op a=>match y with | .un op' a'=>Nat.beq a a'&&Nat.beq (Bl op) (Bl op') | _=>false
 | .mm g a b=>match y with | .mm g' a' b'=>Nat.beq a a'&&Nat.beq b b'&&(bif g then g' else !g') | _=>false
 | .conv k a=>match y with | .conv k' a'=>Nat.beq a a'&&Nat.beq (kc k) (kc k') | _=>false
 | .len a=>match y with | .len a'=>Nat.beq a a' | _=>false
 | .slen a=>match y with | .slen a'=>Nat.beq a a' | _=>false
 | .nT a i=>match y with | .nT a' i'=>Nat.beq a a'&&Nat.beq i i' | _=>false
 | .vg a l h=>match y with | .vg a' l' h'=>Nat.beq a a'&&Nat.beq l l'&&Nat.beq h h' | _=>false
 | .mQ s a l h=>match y with | .mQ s' a' l' h'=>Nat.beq s s'&&Nat.beq a a'&&Nat.beq l l'&&Nat.beq h h' | _=>false
 | .idx a i=>match y with | .idx a' i'=>Nat.beq a a'&&Nat.beq i i' | _=>false
 | .at s a i=>match y with | .at s' a' i'=>Nat.beq s s'&&Nat.beq a a'&&Nat.beq i i' | _=>false
 | .cell o a=>match y with | .cell o' a'=>Nat.beq o o'&&Nat.beq a a' | _=>false
 | .mk l=>match y with | .mk l'=>qN l l' | _=>false
 | .ml l=>match y with | .ml l'=>qN l l' | _=>false
 | .app z s a b=>match y with | .app z' s' a' b'=>Nat.beq z z'&&Nat.beq s s'&&Nat.beq a a'&&Nat.beq b b' | _=>false
 | .upd s o a i vs=>match y with | .upd s' o' a' i' vs'=>Nat.beq s s'&&Nat.beq o o'&&Nat.beq a a'&&Nat.beq i i'&&qN vs vs' | _=>false
 | .rep s b z l c=>match y with | .rep s' b' z' l' c'=>Nat.beq s s'&&Nat.beq b b'&&Nat.beq z z'&&Nat.beq l l'&&Nat.beq c c' | _=>false
 | .bytes a=>match y with | .bytes a'=>Nat.beq a a' | _=>false
 | .str a=>match y with | .str a'=>Nat.beq a a' | _=>false
 | .Bc a=>match y with | .Bc a'=>Nat.beq a a' | _=>false
 | .same a b=>match y with | .same a' b'=>Nat.beq a a'&&Nat.beq b b' | _=>false
 | .uP a j=>match y with | .uP a' j'=>Nat.beq a a'&&Nat.beq j j' | _=>false
 | .call f l j=>match y with | .call f' l' j'=>Nat.beq f f'&&Nat.beq j j'&&qN l l' | _=>false
 | .yG z m k=>match y with | .yG z' m' k'=>Nat.beq z z'&&Nat.beq m m'&&Nat.beq k k' | _=>false
 | .Ap m k=>match y with | .Ap m' k'=>Nat.beq m m'&&Nat.beq k k' | _=>false
 | .uS m k v=>match y with | .uS m' k' v'=>Nat.beq m m'&&Nat.beq k k'&&Nat.beq v v' | _=>false
theorem Ju {a b:Nat}:Nat.beq a b=true↔a=b:=⟨Nat.eq_of_beq_eq_true,fun h=>by rw [h];exact Nat.beq_refl b⟩
theorem akM {l m:List Nat}:qN l m=true↔l=m:=⟨QG,fun h=>by subst h;induction l with | nil=>rfl | cons a l ih=>simp [qN,ih]⟩
theorem Vq {l m:List UInt8}:uF l m=true↔l=m:=⟨Ob,fun h=>by subst h;induction l with | nil=>rfl | cons a l ih=>simp [uF,ih]⟩
theorem abu {a b:Int}:Ae a b=true↔a=b:=⟨abt,fun h=>by subst h;cases a<;>simp [Ae]⟩
theorem acM {o o':BinOp}:oQ o=oQ o'↔o=o':=⟨fun h=>ak2 (Ju.2 h),fun h=>by rw [h]⟩
theorem aqU {o o':UnOp}:Bl o=Bl o'↔o=o':=⟨fun h=>aqV (Ju.2 h),fun h=>by rw [h]⟩
theorem ajz {o o':IntKind}:kc o=kc o'↔o=o':=⟨fun h=>Je (Ju.2 h),fun h=>by rw [h]⟩
theorem Ht {a b:Bool}:(bif a then b else !b)=true↔a=b:=by cases a<;>cases b<;>simp
theorem Nd.eq_of {x y:Nd} (h:x.eq y=true):x=y∧x≠.arg:=by
 cases x<;>simp only [Nd.eq] at h
 case arg=>cases h
 all_goals
  split at h
  ·simp only [Bool.and_eq_true,Ju,akM,Vq,abu,acM,aqU,ajz,Ht] at h
   simp_all
  ·cases h
class fF where
 nodes:List Nd
 dec:List (Nat×Bool)
 ka:Nat:=0
def EP (x:Nd):List Nd→Nat→Option Nat
 | [],_=>none
 | y::l,k=>bif x.eq y then some k else EP x l (k+1)
def dH [fF] (x:Nd):Option Nat:=EP x fF.nodes 0
def EK (n:Nat):List (Nat×Bool)→Option Bool
 | []=>none
 | p::l=>bif Nat.beq n p.1 then some p.2 else EK n l
def Oz [fF] (n:Nat):Option Bool:=EK n fF.dec
theorem aaR {x:Nd}:∀ {l:List Nd} {k n:Nat},EP x l k=some n→k≤n∧l[n - k]? = some x∧x≠.arg
 | [],_,_,h=>by simp [EP] at h
 | y::l,k,n,h=>by
   simp only [EP] at h
   cases he:x.eq y with
   | true=>
     rw [he] at h;simp only [cond_true,Option.some.injEq] at h;subst h
     obtain ⟨rfl,h2⟩:=Nd.eq_of he
     exact ⟨Nat.le_refl _,by simp,h2⟩
   | false=>
     rw [he] at h;simp only [cond_false] at h
     obtain ⟨h1,h2,h3⟩:=aaR h
     refine ⟨by omega, ?_,h3⟩
     have:n - k=(n - (k+1))+1:=by omega
     rw [this,List.getElem?_cons_succ];exact h2
theorem ahR [fF] {x:Nd} {n:Nat} (h:dH x=some n):fF.nodes[n]? = some x∧x≠.arg:=by
 obtain ⟨_,h2,h3⟩:=aaR h
 exact ⟨by simpa using h2,h3⟩
theorem EL {n:Nat} {b:Bool}:∀ {l:List (Nat×Bool)},EK n l=some b→(n,b)∈l
 | [],h=>by simp [EK] at h
 | p::l,h=>by
   simp only [EK] at h
   cases he:Nat.beq n p.1 with
   | true=>
     rw [he] at h;simp only [cond_true,Option.some.injEq] at h
     have:p=(n,b):=by rw [← h,Nat.eq_of_beq_eq_true he]
     rw [this];simp
   | false=>
     rw [he] at h;simp only [cond_false] at h
     exact List.mem_cons_of_mem _ (EL h)
end
end Go.aP
namespace Go.aP
noncomputable section
inductive AV where
 | b (x:Bool)
 | i (k:IntKind) (n:Int)
 | s (x:List UInt8)
 | iC
 | p (id off:Nat)
 | dM
 | sl (id off len:Nat) (cap:Option Nat)
 | lQ
 | mp (id:Nat)
 | sZ
 | fn (f:FuncId) (first caps:List AV)
 | nO
 | dD (t:TypeId) (v:AV)
 | agg (l:List AV)
 | bV (l:List AV)
 | z (k:IntKind) (lo hi:Int)
 | ro (l:List AV)
 | rp (a:AV) (off:Nat)
 | nd (n:Nat)
 | rx (n off:Nat)
 | sv (id n:Nat)
 | pv (id n off:Nat)
 | pd (id n:Nat)
 deriving Inhabited
structure Place where
 bl:Nat
 ba:Nat
 sz:Nat
 es:Nat
structure Env where
 pl:Nat→Option Place
 ro:Nat→Option Obj
 gh:Nat→Bool
instance:CoeFun Env (fun _=>Nat→Option Place):=⟨Env.pl⟩
class aC extends fF where
 tabs:List (Nat×List AV)
 I:Nat→List GV→Option (List GV)
 val:Nat→Option GV
 l7:∀ (n:Nat) nd,nodes[n]? = some nd→nd≠.arg→∃g,val n=some g∧nd.den I val=some g
 uI:∀ (n:Nat) (b:Bool),(n,b)∈dec→val n=some (.b b)
def cu (xs:List Value):List Value:=xs.flatMap fun x=>x.cells.toList
def xU (cs:Array Value) (off:Nat) (l:List Value):Prop:=∀ (k:Nat) x,l[k]? = some x→cs[off+k]? = some x
mutual
def GR (ro:Nat→Option Obj):GV→Value→Prop
 | .b x,v=>v=.bool x
 | .i k n,v=>v=.int k n
 | .s x,v=>v=.string ⟨⟨x⟩⟩
 | .g cs,v=>∃vs,v=.agg ⟨vs⟩∧aS ro cs vs
 | .l xs,v=>(xs=[]∧∃p,v=.slice p 0 0)∨∃bl off c ys sz,v=.slice (some ⟨bl,off,none⟩) xs.length c∧xs.length≤c∧aS ro xs ys∧(∀x∈ys,x.cells.size=sz)∧
    (xs≠[]→∃cs elem fr,ro bl=some (.cells cs elem fr)∧off+(cu ys).length≤cs.size∧xU cs off (cu ys))
def aS (ro:Nat→Option Obj):List GV→List Value→Prop
 | [],vs=>vs=[]
 | a::l,vs=>∃x xs,vs=x::xs∧GR ro a x∧aS ro l xs
end
variable [aC]
mutual
def VR (η:Env):AV→Value→Prop
 | .b x,v=>v=.bool x
 | .i k n,v=>v=.int k n
 | .s x,v=>v=.string ⟨⟨x⟩⟩
 | .iC,v=>v=.pointer none
 | .p id off,v=>∃q,η id=some q∧v=.pointer (some ⟨q.bl,q.ba+off,none⟩)
 | .dM,v=>v=.slice none 0 0
 | .sl id off len cap,v=>∃q,η id=some q∧len≤cap.getD ((q.sz - off) / q.es)∧v=.slice (some ⟨q.bl,q.ba+off,none⟩) len (cap.getD ((q.sz - off) / q.es))
 | .lQ,v=>v=.map none
 | .mp id,v=>∃q,η id=some q∧v=.map (some q.bl)
 | .sZ,v=>v=.nilFunc
 | .fn f fi caps,v=>∃us vs,v=.func (.func f) ⟨us⟩ ⟨vs⟩∧aj η fi us∧aj η caps vs
 | .nO,v=>v=.nilIface
 | .dD t a,v=>∃x,v=.iface t x∧VR η a x
 | .agg l,v=>∃vs,v=.agg ⟨vs⟩∧aj η l vs
 | .bV l,v=>∃vs,v=.tuple ⟨vs⟩∧aj η l vs
 | .z k lo hi,v=>∃n:Int,lo≤n∧n≤hi∧v=.int k n
 | .ro l,v=>(l=[]∧∃p,v=.slice p 0 0)∨∃bl off c xs sz,v=.slice (some ⟨bl,off,none⟩) l.length c∧l.length≤c∧aj η l xs∧(∀x∈xs,x.cells.size=sz)∧
    (l≠[]→∃cs elem fr,η.ro bl=some (.cells cs elem fr)∧off+(cu xs).length≤cs.size∧xU cs off (cu xs))
 | .rp a off,v=>∃bl base cs elem fr x,η.ro bl=some (.cells cs elem fr)∧VR η a x∧v=.pointer (some ⟨bl,base+off,none⟩)∧base+x.cells.size≤cs.size∧xU cs base x.cells.toList
 | .nd n,v=>∃g,aC.val n=some g∧g.scalar=true∧GR η.ro g v
 | .rx n off,v=>∃g bl base cs elem fr x,aC.val n=some g∧η.ro bl=some (.cells cs elem fr)∧GR η.ro g x∧v=.pointer (some ⟨bl,base+off,none⟩)∧base+x.cells.size≤cs.size∧xU cs base x.cells.toList
 | .sv id n,v=>∃xs,aC.val n=some (.l xs)∧((∃q,η id=some q∧xs.length≤q.sz / q.es∧v=.slice (some ⟨q.bl,q.ba,none⟩) xs.length (q.sz / q.es))∨(η.gh id=true∧xs=[]∧v=.slice none 0 0))
 | .pv id n off,v=>∃q k i,η id=some q∧aC.val n=some (.i k i)∧v=.pointer (some ⟨q.bl,q.ba+i.toNat * q.es+off,none⟩)
 | .pd id n,v=>∃xs p,aC.val n=some (.l xs)∧v=.pointer p∧(xs≠[]→∃q,η id=some q∧p=some ⟨q.bl,q.ba,none⟩)
def aj (η:Env):List AV→List Value→Prop
 | [],vs=>vs=[]
 | a::l,vs=>∃x xs,vs=x::xs∧VR η a x∧aj η l xs
end
inductive Tr (α:Type) where
 | nil
 | nd (v:Option α) (l r:Tr α)
 deriving Inhabited
def Tr.val {α:Type} (t:Tr α):Option α:=Tr.casesOn t none (fun v _ _=>v)
def Tr.wK {α:Type} (t:Tr α):Tr α:=Tr.casesOn t .nil (fun _ l _=>l)
def Tr.xk {α:Type} (t:Tr α):Tr α:=Tr.casesOn t .nil (fun _ _ r=>r)
def Tr.sK {α:Type} (p:List Bool):Tr α→Option α:=List.rec (motive:=fun _=>Tr α→Option α) Tr.val (fun b _ ih t=>ih (bif b then t.wK else t.xk)) p
def Tr.Ba {α:Type} (x:Option α) (p:List Bool):Tr α→Tr α:=List.rec (motive:=fun _=>Tr α→Tr α) (fun t=>.nd x t.wK t.xk)
 (fun b _ ih t=>bif b then .nd t.val (ih t.wK) t.xk else .nd t.val t.wK (ih t.xk)) p
def FT (f:Nat):Nat→List Bool:=Nat.rec (motive:=fun _=>Nat→List Bool) (fun _=>[]) (fun _ ih n=>bif Nat.beq n 0 then [] else Nat.beq ((n - 1) % 2) 0::ih ((n - 1) / 2)) f
def path (n:Nat):List Bool:=FT (Nat.log2 n+1) n
def Tr.get {α:Type} (t:Tr α) (n:Nat):Option α:=Tr.sK (path n) t
def Tr.set {α:Type} (t:Tr α) (n:Nat) (x:Option α):Tr α:=Tr.Ba x (path n) t
inductive aZ where
 | cells (c:List AV) (et:TypeId) (rw opn:Bool)
 | iter (s:List UInt8) (pos:Nat)
 | map (es:List (AV×AV))
 | iterM (m:Option Nat)
 | vec (n:Nat) (et:TypeId) (f:Bool)
 | smap (n:Nat) (kk:Option IntKind) (sz:Option Nat)
 deriving Inhabited
structure ah where
 h:Tr aZ
 next:Nat
 lock:Nat
 deriving Inhabited
def ah.get (σ:ah) (id:Nat):Option aZ:=σ.h.get id
def ah.put (σ:ah) (id:Nat) (o:aZ):ah:={ σ with h:=σ.h.set id (some o) }
def ah.kill (σ:ah) (id:Nat):ah:={ σ with h:=σ.h.set id none }
def ah.new (σ:ah) (o:aZ):ah:={ σ with h:=σ.h.set σ.next (some o),next:=σ.next+1 }
def ou {α β:Type} (f:α→Option β):List α→Option (List β)
 | []=>some []
 | x::xs=>match f x with
   | none=>none
   | some y=>match ou f xs with
     | none=>none
     | some ys=>some (y::ys)
def AV.toVal:Nat→AV→Option Value
 | 0,_=>none
 | n+1,a=>
   match a with
   | .b x=>some (.bool x)
   | .i k x=>some (.int k x)
   | .s x=>some (.string ⟨⟨x⟩⟩)
   | .iC=>some (.pointer none)
   | .dM=>some (.slice none 0 0)
   | .lQ=>some (.map none)
   | .sZ=>some .nilFunc
   | .nO=>some .nilIface
   | .dD t v=>(AV.toVal n v).map (.iface t)
   | .agg l=>(ou (AV.toVal n) l).map fun vs=>.agg ⟨vs⟩
   | .bV l=>(ou (AV.toVal n) l).map fun vs=>.tuple ⟨vs⟩
   | _=>none
def jg:Nat→Value→Option AV
 | 0,_=>none
 | n+1,v=>
   match v with
   | .bool x=>some (.b x)
   | .int k x=>some (.i k x)
   | .string s=>some (.s s.data.toList)
   | .pointer none=>some .iC
   | .slice none 0 0=>some .dM
   | .map none=>some .lQ
   | .nilFunc=>some .sZ
   | .nilIface=>some .nO
   | .iface t x=>(jg n x).map (.dD t)
   | .agg cs=>(ou (jg n) cs.toList).map .agg
   | .tuple cs=>(ou (jg n) cs.toList).map .bV
   | _=>none
def lS {α:Type} (P:Program):Sem α→Option α
 | .pure a=>some a
 | .program k=>lS P (k P)
 | .mark _ k=>lS P k
 | _=>none
structure aY where
 t:Tr AV
 n:Nat
 gn:Nat
def aY.eval (a:aY):Operand→Option AV
 | .tmp t=>a.t.get t
 | .const v=>jg 4 v
 | .global g=>if g < a.gn then some (.p g 0) else none
 | .func f=>some (.fn f [] [])
def aY.put (a:aY) (dst:Option Tmp) (v:Option AV):Option aY:=
 match dst with
 | none=>some a
 | some d=>if d < a.n then some { a with t:=a.t.set d v } else none
def AV.cells:AV→List AV
 | .agg l=>l
 | v=>[v]
def AV.jJ:AV→Bool
 | .agg _ | .bV _=>false
 | _=>true
def rV (P:Program) (t:TypeId):Option (List AV):=
 match P.info? t with
 | some i=>match i.zero with
   | some z=>(jg 4 z).map AV.cells
   | none=>none
 | none=>none
def kX (P:Program) (t:TypeId):Option Bool:=
 match P.underlying t with
 | some (.struct _) | some (.array _ _)=>some true
 | some _=>some false
 | none=>none
def sizeT (P:Program) (t:TypeId):Option Nat:=(P.info? t).map (·.size)
def takeN (l:List AV) (off n:Nat):Option (List AV):=
 let r:=(l.drop off).take n
 if r.length=n then some r else none
def tC (l:List AV) (off:Nat) (vs:List AV):Option (List AV):=
 if off+vs.length≤l.length then some (l.take off++vs++l.drop (off+vs.length)) else none
def uq (place:Nat→Option (Nat×Nat)) (cells:List AV):List (Nat×AV)→Option (List AV)
 | []=>some cells
 | (i,v)::rest=>
   match place i with
   | none=>none
   | some (off,size)=>
     if v.cells.length=size then
      match tC cells off v.cells with
      | some cs=>uq place cs rest
      | none=>none
     else none
def yh (ev:Operand→Option AV):List (Nat×Operand)→Option (List (Nat×AV))
 | []=>some []
 | (i,x)::rest=>match ev x,yh ev rest with
   | some v,some r=>some ((i,v)::r)
   | _,_=>none
def uM (ev:Operand→Option AV):List Operand→Option (List AV)
 | []=>some []
 | x::rest=>match ev x,uM ev rest with
   | some v,some r=>some (v::r)
   | _,_=>none
def G8 (P:Program) (t:TypeId) (cs:List AV) (off:Nat):Option AV:=
 match kX P t with
 | some true=>match sizeT P t with
   | some n=>(takeN cs off n).map .agg
   | none=>none
 | some false=>cs[off]?
 | none=>none
def F8 (P:Program):List Field→Option (List (Nat×Nat))
 | []=>some []
 | f::fs=>match sizeT P f.type,F8 P fs with
   | some n,some r=>some ((f.offset,n)::r)
   | _,_=>none
def GK (P:Program) (t:TypeId) (parts:List (Nat×AV)):Option AV:=
 match rV P t,P.underlying t with
 | some zero,some (.struct fields)=>
   match F8 P fields.toList with
   | some places=>(uq (fun i=>places[i]?) zero parts).map .agg
   | none=>none
 | some zero,some (.array _ elem)=>
   match sizeT P elem with
   | some size=>(uq (fun i=>some (i * size,size)) zero parts).map .agg
   | none=>none
 | _,_=>none
def gy (n:Nat) (zero:List AV):List AV:=(List.replicate n zero).flatten
def pK (P:Program) (t:TypeId) (σ:ah) (a:AV):Option AV:=
 match a with
 | .p id off=>
   match σ.get id with
   | some (.cells c _ _ _)=>
     match kX P t with
     | some true=>match sizeT P t with
       | some n=>(takeN c off n).map .agg
       | none=>none
     | some false=>c[off]?
     | none=>none
   | _=>none
 | .rp e off=>
   match kX P t with
   | some true=>match sizeT P t with
     | some n=>(takeN e.cells off n).map .agg
     | none=>none
   | some false=>e.cells[off]?
   | none=>none
 | _=>none
def xK (P:Program) (t:TypeId) (σ:ah) (a v:AV):Option ah:=
 match a with
 | .p id off=>
   match σ.get id with
   | some (.cells c et true opn)=>
     if σ.lock≤id∧sizeT P t=some v.cells.length∧v.cells.all AV.jJ then
      (tC c off v.cells).map fun c'=>σ.put id (.cells c' et true opn)
     else none
   | _=>none
 | _=>none
def pJ:AV→Option Int
 | .i _ n=>some n
 | _=>none
def uw (len:Nat) (room:Nat→Bool):Option AV→Option Nat
 | none=>some len
 | some v=>match pJ v with
   | some h=>if 0≤h∧room h.toNat=true then some h.toNat else none
   | none=>none
def BH (h:Nat):Option AV→Option Nat
 | none=>some 0
 | some v=>match pJ v with
   | some l=>if 0≤l∧l≤h then some l.toNat else none
   | none=>none
def qG (len:Nat) (room:Nat→Bool) (low high:Option AV):Option (Nat×Nat):=
 match uw len room high with
 | none=>none
 | some h=>match BH h low with
   | none=>none
   | some l=>some (l,h)
def Ar (ev:Operand→Option AV):Option Operand→Option (Option AV)
 | none=>some none
 | some x=>(ev x).map some
end
end Go.aP
namespace Go.aP
noncomputable section
variable [fF]
set_option linter.unusedSectionVars false
set_option linter.unusedVariables false
set_option linter.unusedSimpArgs false
def bytesOf:List AV→Option (List UInt8)
 | []=>some []
 | .i .u8 n::rest=>if 0≤n∧n < 256 then (bytesOf rest).map (UInt8.ofNat n.toNat::·) else none
 | _::_=>none
def pU (s:List UInt8):List AV:=s.map fun b=>.i .u8 b.toNat
def qC (a:AV):Option Value:=a.toVal 4
def pV (P:Program) (t:TypeId):Option (TypeId×Nat×Nat×List AV):=
 match P.underlying t with
 | some (.slice e)=>match P.info? e,rV P e with
   | some i,some z=>if e≠0∧z.length=i.size then some (e,i.size,i.bytes,z) else none
   | _,_=>none
 | _=>none
def rQ (σ:ah) (size:Nat):AV→Option (Nat×List AV)
 | .dM=>some (0,[])
 | .sl id off len _=>match σ.get id with
   | some (.cells c _ _ _)=>(takeN c off (len * size)).map fun r=>(len,r)
   | _=>none
 | .s x=>if size=1 then some (x.length,pU x) else none
 | .ro l=>if l.all (fun a=>a.cells.length==size)=true then some (l.length,l.flatMap AV.cells) else none
 | _=>none
def yA (P:Program) (t:TypeId):Bool:=
 match P.underlying t with
 | some (.slice _) | some .string=>true
 | _=>false
def sliceLen:AV→Nat
 | .sl _ _ n _=>n
 | _=>0
def lF (e size bytes:Nat) (s:AV) (n:Nat) (new:List AV) (σ:ah):Option (AV×ah):=
 if size=0∨new.all AV.jJ=false∨¬ (2 * (sliceLen s+n) * bytes≤2 ^ 48∧sliceLen s+n≤2 ^ 48) then none else
 match s with
 | .dM=>
   if n=0 then some (.dM,σ) else some (.sl σ.next 0 n none,σ.new (.cells new e true true))
 | .sl id off len (some cap)=>
   if len+n≤cap then
    if n=0 then some (s,σ) else
    match σ.get id with
    | some (.cells c et true opn)=>
      if σ.lock≤id then
       (tC c (off+len * size) new).map fun c'=>(.sl id off (len+n) (some cap),σ.put id (.cells c' et true opn))
      else none
    | _=>none
   else
    match σ.get id with
    | some (.cells c _ _ _)=>(takeN c off (len * size)).map fun old=>(.sl σ.next 0 (len+n) none,σ.new (.cells (old++new) e true true))
    | _=>none
 | .sl id off len none=>
   if n=0 then some (s,σ)
   else if σ.lock≤id then
    match σ.get id with
    | some (.cells c et true true)=>if et=e then (takeN c off (len * size)).map fun old=>(.sl σ.next 0 (len+n) none,(σ.kill id).new (.cells (old++new) e true true)) else none
    | _=>none
   else none
 | .ro l=>if n=0 then some (.ro l,σ) else none
 | _=>none
def Nu (P:Program) (argTypes:Array TypeId) (s x:AV) (σ:ah):Option (AV×ah):=
 match argTypes.toList with
 | [t,t1]=>
   match pV P t,yA P t1 with
   | some (e,size,bytes,_),true=>
     match rQ σ size x with
     | some (n,new)=>lF e size bytes s n new σ
     | none=>none
   | _,_=>none
 | _=>none
def GX (P:Program) (σ:ah) (t:TypeId) (x:AV):Option AV:=
 match P.underlying t,x with
 | some .string,.s s=>some (.i .i64 s.length)
 | some (.slice _),.dM=>some (.i .i64 0)
 | some (.slice _),.sl _ _ n _=>some (.i .i64 n)
 | some (.slice _),.ro l=>some (.i .i64 l.length)
 | some (.map _ _),.lQ=>some (.i .i64 0)
 | some (.map _ _),.mp id=>match σ.get id with
   | some (.map es)=>some (.i .i64 es.length)
   | _=>none
 | some (.array n _),_=>some (.i .i64 n)
 | _,_=>none
def GZ (P:Program) (t:TypeId) (len cap:AV) (σ:ah):Option (AV×ah):=
 match pV P t,pJ len,pJ cap with
 | some (e,size,bytes,z),some l,some c=>
   if 0≤l∧l≤c∧bytes * c≤2 ^ 48∧c≤2 ^ 60 then
    some (.sl σ.next 0 l.toNat (some c.toNat),σ.new (.cells (if size=0 then [] else gy c.toNat z) e true false))
   else none
 | _,_,_=>none
def G9 (size:Nat) (es:List AV) (l h:Nat):Option AV:=
 if h=l then some (.ro []) else
 match es[0]? with
 | some a=>if a.cells.length=size then some (.ro ((es.take h).drop l)) else none
 | none=>none
def uD (P:Program) (t:TypeId) (σ:ah) (x:AV) (lo hi:Option AV):Option AV:=
 match P.underlying t,x with
 | some .string,.s s=>
   (qG s.length (fun h=>Nat.ble h s.length) lo hi).map fun (l,h)=>.s ((s.take h).drop l)
 | some (.slice e),.sl id off len cap=>
   match sizeT P e,cap with
   | some size,some c=>
     (qG len (fun h=>Nat.ble h c) lo hi).bind fun (l,h)=>
      if c=l then some (.sl id off (h - l) (some 0)) else some (.sl id (off+l * size) (h - l) (some (c - l)))
   | some size,none=>
     match σ.get id with
     | some (.cells _ et _ true)=>if et=e then
        (qG len (fun h=>Nat.ble h len) lo hi).bind fun (l,h)=>
         if l < len then some (.sl id (off+l * size) (h - l) none) else if l=0 then some (.sl id off (h - l) none) else if h=l then some (.ro []) else none
       else none
     | _=>none
   | none,_=>none
 | some (.slice e),.dM=>match sizeT P e with
   | some _=>(qG 0 (fun h=>Nat.ble h 0) lo hi).map fun _=>.dM
   | none=>none
 | some (.slice e),.ro es=>match sizeT P e with
   | some size=>(qG es.length (fun h=>Nat.ble h es.length) lo hi).bind fun (l,h)=>G9 size es l h
   | none=>none
 | some (.array n e),.p id off=>match sizeT P e with
   | some size=>(qG n (fun h=>Nat.ble h n) lo hi).map fun (l,h)=>
      if n=l then .sl id off (h - l) (some 0) else .sl id (off+l * size) (h - l) (some (n - l))
   | none=>none
 | _,_=>none
def GU (P:Program) (t:TypeId) (x:AV) (f:Nat):Option AV:=
 match P.underlying t,x with
 | some (.struct fields),.p id off=>
   match fields[f]? with
   | some fd=>match sizeT P fd.type with
     | some n=>if n=0 then none else some (.p id (off+fd.offset))
     | none=>none
   | none=>none
 | some (.struct fields),.rp a off=>
   match fields[f]? with
   | some fd=>match sizeT P fd.type with
     | some n=>if n=0 then none else some (.rp a (off+fd.offset))
     | none=>none
   | none=>none
 | _,_=>none
def GN (P:Program) (t:TypeId) (x:AV) (f:Nat):Option AV:=
 match P.underlying t,x with
 | some (.struct fields),.agg cs=>
   match fields[f]? with
   | some fd=>G8 P fd.type cs fd.offset
   | none=>none
 | _,_=>none
def uy (P:Program) (t:TypeId) (x ix:AV):Option AV:=
 match P.underlying t,x,pJ ix with
 | some (.slice e),.sl id off len _,some k=>
   match sizeT P e with
   | some size=>if 0≤k∧k < len then some (.p id (off+k.toNat * size)) else none
   | none=>none
 | some (.array len e),.p id off,some k=>
   match sizeT P e with
   | some size=>if 0≤k∧k < len then some (.p id (off+k.toNat * size)) else none
   | none=>none
 | some (.slice e),.ro l,some k=>
   match sizeT P e with
   | some size=>if 0≤k then match l[k.toNat]? with
     | some a=>if a.cells.length=size then some (.rp a 0) else none
     | none=>none
     else none
   | none=>none
 | some (.array len e),.rp a off,some k=>
   match sizeT P e with
   | some size=>if 0≤k∧k < len then some (.rp a (off+k.toNat * size)) else none
   | none=>none
 | _,_,_=>none
def xJ (P:Program) (t:TypeId) (x ix:AV):Option AV:=
 match P.underlying t,x,pJ ix with
 | some .string,.s s,some k=>
   if 0≤k then match s[k.toNat]? with
    | some c=>some (.i .u8 c.toNat)
    | none=>none
   else none
 | some (.array len e),.agg cs,some k=>
   match sizeT P e with
   | some size=>if 0≤k∧k < len then G8 P e cs (k.toNat * size) else none
   | none=>none
 | _,_,_=>none
def qZ (P:Program) (src dst:TypeId) (x:AV) (σ:ah):Option (AV×ah):=
 match P.underlying src,P.underlying dst,x with
 | some _,some (.int k),.i _ n=>some (.i k (k.wrap n),σ)
 | some .string,some .string,.s s=>some (.s s,σ)
 | some .string,some (.slice e),.s s=>
   match P.underlying e with
   | some (.int .u8)=>if e≠0∧sizeT P e=some 1 then some (.sl σ.next 0 s.length none,σ.new (.cells (pU s) e true true)) else none
   | _=>none
 | some (.slice e),some .string,.dM=>
   match P.underlying e with
   | some (.int .u8)=>some (.s [],σ)
   | _=>none
 | some (.slice e),some .string,.sl id off len _=>
   match P.underlying e,σ.get id with
   | some (.int .u8),some (.cells c _ _ _)=>match takeN c off len with
     | some r=>(bytesOf r).map fun b=>(.s b,σ)
     | none=>none
   | _,_=>none
 | some (.slice e),some .string,.ro l=>
   match P.underlying e with
   | some (.int .u8)=>(bytesOf l).map fun b=>(.s b,σ)
   | _=>none
 | some (.pointer t),some .unsafePointer,.p id off=>
   match σ.get id,sizeT P t with
   | some (.cells c et _ false),some n=>if et≠0∧off < c.length∧n≠0 then some (.p id off,σ) else none
   | _,_=>none
 | some .unsafePointer,some (.pointer u),.p id off=>
   match σ.get id,sizeT P u with
   | some (.cells c et _ false),some _=>if et≠0∧liesAt P P.depth et (c.length / P.cellsOf et) off u 1=true then some (.p id off,σ) else none
   | _,_=>none
 | _,_,_=>none
def Ia (op:BinOp) (a b c d:Int):Option AV:=
 match op with
 | .lss=>if b < c then some (.b true) else if d≤a then some (.b false) else none
 | .leq=>if b≤c then some (.b true) else if d < a then some (.b false) else none
 | .gtr=>if d < a then some (.b true) else if b≤c then some (.b false) else none
 | .geq=>if d≤a then some (.b true) else if b < c then some (.b false) else none
 | .eql=>if b < c∨d < a then some (.b false) else none
 | .neq=>if b < c∨d < a then some (.b true) else none
 | _=>none
def nX (P:Program) (op:BinOp) (t:TypeId) (x y:Operand) (a b:AV):Option AV:=
 match op,a,b with
 | .eql,.p id off,.p id' off'=>match P.underlying t with
   | some (.pointer e)=>match sizeT P e with
     | some n=>if id=id'∧n≠0 then some (.b (off==off')) else none
     | none=>none
   | _=>none
 | .neq,.p id off,.p id' off'=>match P.underlying t with
   | some (.pointer e)=>match sizeT P e with
     | some n=>if id=id'∧n≠0 then some (.b (!(off==off'))) else none
     | none=>none
   | _=>none
 | .eql,.p _ _,.iC | .eql,.iC,.p _ _=>match P.underlying t with
   | some (.pointer _)=>some (.b false)
   | _=>none
 | .neq,.p _ _,.iC | .neq,.iC,.p _ _=>match P.underlying t with
   | some (.pointer _)=>some (.b true)
   | _=>none
 | .eql,.ro (_::_),.dM | .eql,.dM,.ro (_::_)=>match P.underlying t with
   | some (.slice _)=>some (.b false)
   | _=>none
 | .neq,.ro (_::_),.dM | .neq,.dM,.ro (_::_)=>match P.underlying t with
   | some (.slice _)=>some (.b true)
   | _=>none
 | .eql,.rp _ _,.iC | .eql,.iC,.rp _ _=>match P.underlying t with
   | some (.pointer _)=>some (.b false)
   | _=>none
 | .neq,.rp _ _,.iC | .neq,.iC,.rp _ _=>match P.underlying t with
   | some (.pointer _)=>some (.b true)
   | _=>none
 | .eql,.sl ..,.dM | .eql,.dM,.sl ..=>match P.underlying t with
   | some (.slice _)=>some (.b false)
   | _=>none
 | .neq,.sl ..,.dM | .neq,.dM,.sl ..=>match P.underlying t with
   | some (.slice _)=>some (.b true)
   | _=>none
 | .eql,.dD _ _,.nO | .eql,.nO,.dD _ _=>match P.underlying t with
   | some (.interface _)=>some (.b false)
   | _=>none
 | .neq,.dD _ _,.nO | .neq,.nO,.dD _ _=>match P.underlying t with
   | some (.interface _)=>some (.b true)
   | _=>none
 | .eql,.mp _,.lQ | .eql,.lQ,.mp _=>match P.underlying t with
   | some (.map _ _)=>some (.b false)
   | _=>none
 | .neq,.mp _,.lQ | .neq,.lQ,.mp _=>match P.underlying t with
   | some (.map _ _)=>some (.b true)
   | _=>none
 | _,.z k lo hi,.i k' n=>if k=k' then Ia op lo hi n n else none
 | _,.i k n,.z k' lo hi=>if k=k' then Ia op n n lo hi else none
 | _,_,_=>
   match qC a,qC b with
   | some u,some v=>(lS P (do eqGuard op t x y u v;binOp op t u v)).bind (jg 4)
   | _,_=>none
def P9:AV→AV→Option Bool
 | .i k a,.i k' b=>if k=k' then some (a==b) else none
 | .s a,.s b=>some (a==b)
 | .b a,.b b=>some (a==b)
 | .z k lo hi,.i k' b=>if k=k'∧(b < lo∨hi < b) then some false else none
 | _,_=>none
def zU (k:AV):List (AV×AV)→Nat→Option (Option (Nat×AV))
 | [],_=>some none
 | e::es,i=>match P9 k e.1 with
   | some true=>some (some (i,e.2))
   | some false=>zU k es (i+1)
   | none=>none
def Iu (P:Program) (t:TypeId) (k:AV):Bool:=
 match P.underlying t,k with
 | some (.int _),.i _ _ | some (.int _),.z _ _ _ | some .string,.s _ | some .bool,.b _=>true
 | _,_=>false
def GY (P:Program) (t:TypeId) (m k:AV) (ok:Bool) (σ:ah):Option AV:=
 match P.underlying t with
 | some (.map kt et)=>
   match (match m with | .lQ=>some [] | .mp id=>(match σ.get id with | some (.map es)=>some es | _=>none) | _=>none) with
   | some es=>
     if Iu P kt k then
      match zU k es 0 with
      | some (some (_,v))=>some (if ok then .bV [v,.b true] else v)
      | some none=>
        match P.info? et with
        | some i=>match i.zero with
          | some z=>(jg 4 z).map fun z=>if ok then .bV [z,.b false] else z
          | none=>none
        | none=>none
      | none=>none
     else none
   | none=>none
 | _=>none
def G5 (P:Program) (t:TypeId) (m k v:AV) (σ:ah):Option ah:=
 match P.underlying t,m with
 | some (.map kt _),.mp id=>
   match σ.get id with
   | some (.map es)=>
     if σ.lock≤id∧Iu P kt k then
      match zU k es 0 with
      | some (some (i,_))=>some (σ.put id (.map (es.set i (k,v))))
      | some none=>some (σ.put id (.map (es++[(k,v)])))
      | none=>none
     else none
   | _=>none
 | _,_=>none
def Ag (P:Program) (t:TypeId):Option Bool:=
 match P.underlying t with
 | some (.interface _)=>some true
 | some _=>some false
 | none=>none
def He (P:Program) (x:AV) (t:TypeId) (ok:Bool):Option AV:=
 match Ag P t,x with
 | some false,.dD u v=>
   if u=t then some (if ok then .bV [v,.b true] else v)
   else if ok then match P.info? t with
    | some i=>match i.zero with
      | some z=>(jg 4 z).map fun z=>.bV [z,.b false]
      | none=>none
    | none=>none
   else none
 | some false,.nO=>
   if ok then match P.info? t with
    | some i=>match i.zero with
      | some z=>(jg 4 z).map fun z=>.bV [z,.b false]
      | none=>none
    | none=>none
   else none
 | _,_=>none
def G7 (it:AV) (σ:ah):Option (AV×ah):=
 match it with
 | .p id 0=>
   match σ.get id with
   | some (.iter s pos)=>
     if σ.lock≤id then
      if pos < s.length then
       let r:=Utf8.decode ⟨⟨s⟩⟩ pos
       some (.bV [.b true,.i .i64 pos,.i .i32 r.1],σ.put id (.iter s (pos+r.2)))
      else some (.bV [.b false],σ)
     else none
   | _=>none
 | _=>none
def Nw (P:Program) (argTypes:Array TypeId) (d x:AV) (σ:ah):Option (AV×ah):=
 match argTypes[0]? with
 | some t=>
   match pV P t,d with
   | some (_,size,_,_),.sl id off dLen _=>
     match rQ σ size x,σ.get id with
     | some (n,new),some (.cells c et true opn)=>
       let k:=Nat.min n dLen
       if size=0 then none else
       if σ.lock≤id∧new.all AV.jJ then
        (tC c off (new.take (k * size))).map fun c'=>(.i .i64 k,σ.put id (.cells c' et true opn))
       else none
     | _,_=>none
   | some (_,size,_,_),.dM=>match rQ σ size x with
     | some _=>some (.i .i64 0,σ)
     | none=>none
   | _,_=>none
 | none=>none
def Nv (P:Program) (t:TypeId) (x:AV) (σ:ah):Option (AV×ah):=
 match P.underlying t,x with
 | some (.slice _),.dM=>some (.bV [],σ)
 | some (.slice _),.ro []=>some (.bV [],σ)
 | some (.slice e),.sl id off n _=>
   if n=0 then some (.bV [],σ) else
   match rV P e,σ.get id with
   | some z,some (.cells c et true opn)=>
     if σ.lock≤id∧z.all AV.jJ then
      (tC c off (gy n z)).map fun c'=>(.bV [],σ.put id (.cells c' et true opn))
     else none
   | _,_=>none
 | some (.map _ _),.lQ=>some (.bV [],σ)
 | some (.map _ _),.mp id=>match σ.get id with
   | some (.map _)=>if σ.lock≤id then some (.bV [],σ.put id (.map [])) else none
   | _=>none
 | _,_=>none
def Ou (m m':Nat):Bool:=match fF.nodes[m]?,fF.nodes[m']? with
 | some (.ci k a),some (.ci k' b)=>Nat.beq (kc k) (kc k')&&!(Ae a b)
 | some (.cs a),some (.cs b)=>!(uF a b)
 | _,_=>false
def yI (n m:Nat):List (Nat×Bool)→Bool
 | []=>false
 | p::l=>(bif p.2 then (match fF.nodes[p.1]? with
   | some (.bin .eql n' m')=>Nat.beq n n'&&Ou m m'
   | _=>false) else false) || yI n m l
def xW:BinOp→Option BinOp
 | .eql=>some .neq
 | .neq=>some .eql
 | .lss=>some .geq
 | .geq=>some .lss
 | .leq=>some .gtr
 | .gtr=>some .leq
 | _=>none
def Cc (c n m:Nat):List (Nat×Bool)→Option Bool
 | []=>none
 | p::l=>match fF.nodes[p.1]? with
   | some (.bin op n' m')=>bif Nat.beq n n'&&Nat.beq m m'&&Nat.beq (oQ op) c then some p.2 else Cc c n m l
   | _=>Cc c n m l
def F5 (op:BinOp) (n m:Nat):Option Bool:=match xW op with
 | some op'=>(Cc (oQ op') n m fF.dec).map fun b=>!b
 | none=>none
def Sr (x:Nd):Option Bool:=match x with
 | .bin .eql n m=>bif yI n m fF.dec then some false else F5 .eql n m
 | .bin .neq n m=>bif yI n m fF.dec then some true else F5 .neq n m
 | .bin op n m=>F5 op n m
 | _=>none
def iD (x:Nd):Option AV:=
 match dH x with
 | some n=>match Oz n with
   | some b=>some (.b b)
   | none=>match Sr x with
     | some b=>some (.b b)
     | none=>some (.nd n)
 | none=>none
def fK:AV→Option Nat
 | .nd n=>some n
 | .i k n=>dH (.ci k n)
 | .b x=>dH (.cb x)
 | .s x=>dH (.cs x)
 | .dM=>dH (.ml [])
 | _=>none
def nodesOf:List AV→Option (List Nat)
 | []=>some []
 | a::l=>match fK a,nodesOf l with
   | some n,some r=>some (n::r)
   | _,_=>none
def xM:AV→Option Nat
 | .agg l=>match nodesOf l with
   | some ns=>dH (.mk ns)
   | none=>none
 | _=>none
def oW:Nat→Nat→Nat→Bool
 | 0,m,n=>Nat.beq m n
 | f+1,m,n=>Nat.beq m n || match fF.nodes[m]? with
   | some (.upd _ _ a _ _)=>oW f a n
   | some (.same a _)=>oW f a n
   | _=>false
def elemsOf (agg:Bool) (size:Nat):Nat→List AV→Option (List Nat)
 | 0,_=>some []
 | n+1,cs=>match (if agg then xM (.agg (cs.take size)) else (cs.head?).bind fK),elemsOf agg size n (cs.drop size) with
   | some a,some r=>some (a::r)
   | _,_=>none
def listOf (P:Program) (σ:ah) (e:TypeId):AV→Option Nat
 | .nd n=>some n
 | .dM=>dH (.ml [])
 | .sv id n=>match σ.get id with
   | some (.vec m et _)=>if Nat.beq e et&&oW 100 m n then some m else none
   | _=>none
 | .sl id off len _=>match σ.get id,sizeT P e,kX P e with
   | some (.cells c et _ _),some size,some agg=>if Nat.beq e et&&((agg&&Nat.blt 0 size) || Nat.beq size 1) then match takeN c off (len * size) with
     | some cs=>match elemsOf agg size len cs with
       | some ns=>dH (.ml ns)
       | none=>none
     | none=>none
     else none
   | _,_,_=>none
 | _=>none
def ajx (a:AV):Bool:=
 match a with
 | .nd _ | .rx _ _ | .sv _ _ | .pv _ _ _ | .pd _ _=>true
 | _=>false
def RH (P:Program) (t:TypeId):Option Nat:=
 match P.underlying t with
 | some (.int _)=>some 0
 | some .string=>some 1
 | some .bool=>some 2
 | _=>none
def Dy (P:Program):List Field→Nat→Option (List Nat)
 | [],_=>some []
 | f::fs,k=>if !(f.name == "_")&&Nat.beq f.offset k then match RH P f.type,Dy P fs (k+1) with
   | some a,some r=>some (a::r)
   | _,_=>none
   else none
def L9 (P:Program) (op:BinOp) (t:TypeId) (a b:AV):Option AV:=
 match P.underlying t with
 | some (.int _) | some .string=>match fK a,fK b with
   | some x,some y=>iD (.bin op x y)
   | _,_=>none
 | some .bool=>match fK a,fK b with
   | some x,some y=>iD (.vM op x y)
   | _,_=>none
 | some (.struct fs)=>if !(P.stoodInHeld t)&&!(P.eqGuardType P.depth t) then match Dy P fs.toList 0,xM a,xM b with
    | some ks,some x,some y=>iD (.vN op ks x y)
    | _,_,_=>none
   else none
 | some (.pointer _)=>match op,a,b with
   | .eql,.rx _ _,.iC | .eql,.iC,.rx _ _=>some (.b false)
   | .neq,.rx _ _,.iC | .neq,.iC,.rx _ _=>some (.b true)
   | .eql,.pv _ _ _,.iC | .eql,.iC,.pv _ _ _=>some (.b false)
   | .neq,.pv _ _ _,.iC | .neq,.iC,.pv _ _ _=>some (.b true)
   | _,_,_=>none
 | _=>none
def DR (op:UnOp) (a:AV):Option AV:=
 match a with
 | .nd n=>iD (.un op n)
 | _=>none
def Mc (P:Program) (src dst:TypeId) (x:AV) (σ:ah):Option (AV×ah):=
 match P.underlying src,P.underlying dst,x with
 | some _,some (.int k),.nd n=>(iD (.conv k n)).map (·,σ)
 | some .string,some .string,.nd n=>(iD (.Bc n)).map (·,σ)
 | some .string,some (.slice e),.nd n=>
   match P.underlying e with
   | some (.int .u8)=>if e≠0∧sizeT P e=some 1 then match dH (.bytes n) with
      | some m=>some (.sv σ.next m,σ.new (.vec m e false))
      | none=>none
     else none
   | _=>none
 | some (.slice e),some .string,x=>
   match P.underlying e with
   | some (.int .u8)=>match listOf P σ e x with
      | some m=>(iD (.str m)).map (·,σ)
      | none=>none
   | _=>none
 | _,_,_=>none
def Ti (P:Program) (t:TypeId) (x:AV):Option AV:=
 match P.underlying t,x with
 | some .string,.nd n=>iD (.slen n)
 | some (.slice _),.nd n=>iD (.len n)
 | some (.slice _),.sv _ n=>iD (.len n)
 | _,_=>none
def dB (a:Option AV):Option AV:=
 match a with
 | some (.nd n)=>match Oz n with
   | some b=>some (.b b)
   | none=>none
 | x=>x
def Dh (i:Nat):Nat→Nat→Option AV
 | 0,_=>none
 | c+1,j=>match iD (.uP i j) with
   | some (.b true)=>some (.i .i64 j)
   | some (.b false)=>Dh i c (j+1)
   | some (.nd m)=>match dB (some (.nd m)) with
     | some (.b true)=>some (.i .i64 j)
     | some (.b false)=>Dh i c (j+1)
     | _=>none
   | _=>none
def Me (P:Program) (t:TypeId) (x ix:AV):Option AV:=
 match P.underlying t with
 | some .string=>match fK x,fK ix with
   | some n,some i=>iD (.nT n i)
   | _,_=>none
 | some (.array len _)=>match fK ix with
   | some i=>match Dh i len 0 with
     | some k=>xJ P t x k
     | none=>none
   | none=>none
 | _=>none
def En:Option AV→Option Nat
 | none=>dH (.ci .i64 0)
 | some a=>fK a
def Hy (x:Nd):Option AV→Option Nat
 | none=>dH x
 | some a=>fK a
def Gj (P:Program) (t:TypeId) (x:AV) (lo hi:Option AV):Option AV:=
 match P.underlying t with
 | some .string=>match fK x with
   | some n=>match En lo,Hy (.slen n) hi with
     | some l,some h=>iD (.vg n l h)
     | _,_=>none
   | none=>none
 | some (.slice e)=>match x,sizeT P e with
   | .nd n,some size=>match En lo,Hy (.len n) hi with
     | some l,some h=>iD (.mQ size n l h)
     | _,_=>none
   | _,_=>none
 | _=>none
def MJ (P:Program) (t:TypeId) (σ:ah) (x:AV) (lo hi:Option AV):Option (AV×ah):=
 match P.underlying t,x with
 | some (.slice e),.sv id n=>match σ.get id,sizeT P e with
   | some (.vec m et f),some size=>if Nat.beq e et&&oW 100 m n&&Nat.ble σ.lock id then
      match lo with
      | none=>match En none,Hy (.len m) hi with
        | some z,some h=>(dH (.mQ size m z h)).map fun k=>(.sv id k,σ.put id (.vec k et f))
        | _,_=>none
      | some _=>(Gj P t (.nd m) lo hi).map (·,σ.kill id)
     else none
   | _,_=>none
 | _,_=>none
def Md (P:Program) (t:TypeId) (x:AV) (f:Nat):Option AV:=
 match P.underlying t with
 | some (.struct fields)=>
   match fields[f]? with
   | some fd=>match sizeT P fd.type with
     | some n=>if n=0 then none else match x with
       | .rx m off=>some (.rx m (off+fd.offset))
       | .pv id m off=>some (.pv id m (off+fd.offset))
       | _=>none
     | none=>none
   | none=>none
 | _=>none
def MB (P:Program) (σ:ah) (t:TypeId) (x ix:AV):Option AV:=
 match P.underlying t with
 | some (.slice e)=>match sizeT P e,fK ix with
   | some size,some i=>match x with
     | .nd n=>(dH (.at size n i)).map fun m=>.rx m 0
     | .sv id n=>match σ.get id with
       | some (.vec _ et _)=>if Nat.beq e et then (dH (.idx n i)).map fun m=>.pv id m 0 else none
       | _=>none
     | _=>none
   | _,_=>none
 | some (.array len _)=>match fK ix with
   | some i=>match Dh i len 0 with
     | some k=>uy P t x k
     | none=>none
   | none=>none
 | _=>none
def zL (m:Nat):Nat→Nat→Option (List AV)
 | _,0=>some []
 | off,n+1=>match iD (.cell off m),zL m (off+1) n with
   | some a,some r=>some (a::r)
   | _,_=>none
def Gi (P:Program) (t:TypeId) (m off:Nat):Option AV:=
 match kX P t with
 | some true=>match sizeT P t with
   | some n=>(zL m off n).map .agg
   | none=>none
 | some false=>iD (.cell off m)
 | none=>none
def MC (P:Program) (t:TypeId) (σ:ah) (a:AV):Option AV:=
 match a with
 | .rx m off=>Gi P t m off
 | .pv id i off=>match σ.get id with
   | some (.vec m et _)=>match sizeT P et with
     | some size=>match dH (.at size m i) with
       | some x=>Gi P t x off
       | none=>none
     | none=>none
   | _=>none
 | _=>none
def Fh (P:Program) (kt:TypeId) (k:AV):Option (Nat×Option IntKind):=
 match P.underlying kt,fK k with
 | some (.int kk),some n=>match dH (.ci kk 0) with
   | some z=>(dH (.bin .eql n z)).map fun _=>(n,some kk)
   | none=>none
 | some .string,some n=>match dH (.cs []) with
   | some z=>(dH (.bin .eql n z)).map fun _=>(n,none)
   | none=>none
 | _,_=>none
def Qa (n:Nat) (e:AV):Option Bool:=
 match fK e with
 | some m=>match (iD (.bin .eql n m)) with
   | some (.b b)=>some b
   | some (.nd j)=>match dB (some (.nd j)) with
     | some (.b b)=>some b
     | _=>none
   | _=>none
 | none=>none
def ER (n:Nat):List (AV×AV)→Nat→Option (Option (Nat×AV))
 | [],_=>some none
 | e::es,i=>match Qa n e.1 with
   | some true=>some (some (i,e.2))
   | some false=>ER n es (i+1)
   | none=>none
def Gs (P:Program) (et:TypeId) (v:AV):Option (Nat×Option Nat):=
 match kX P et with
 | some true=>match xM v,sizeT P et with
   | some n,some k=>if Nat.beq v.cells.length k then some (n,some k) else none
   | _,_=>none
 | some false=>(fK v).map (·,none)
 | none=>none
def Fj:Option IntKind→Option IntKind→Bool
 | none,none=>true
 | some a,some b=>Nat.beq (kc a) (kc b)
 | _,_=>false
def Gl:Option Nat→Option Nat→Bool
 | none,none=>true
 | some a,some b=>Nat.beq a b
 | _,_=>false
def Np (P:Program) (et:TypeId):Option AV:=
 match P.info? et with
 | some i=>match i.zero with
   | some z=>jg 4 z
   | none=>none
 | none=>none
def MF (P:Program) (t:TypeId) (m k:AV) (ok:Bool) (σ:ah):Option AV:=
 match P.underlying t,m with
 | some (.map kt et),.mp id=>
   match Fh P kt k,σ.get id with
   | some (n,_),some (.map es)=>match ER n es 0 with
     | some (some (_,v))=>some (if ok then .bV [v,.b true] else v)
     | some none=>(Np P et).map fun z=>if ok then .bV [z,.b false] else z
     | none=>none
   | some (n,kk),some (.smap j wI sz)=>
     if Fj kk wI then match (Np P et).bind (Gs P et) with
      | some (z,sz')=>if Gl sz sz' then match (dH (.yG z j n)).bind fun g=>Gi P et g 0 with
        | some v=>if ok then match iD (.Ap j n) with
           | some b=>some (.bV [v,b])
           | none=>none
          else some v
        | none=>none
        else none
      | none=>none
     else none
   | _,_=>none
 | _,_=>none
def MH (P:Program) (t:TypeId) (m k v:AV) (σ:ah):Option ah:=
 match P.underlying t,m with
 | some (.map kt et),.mp id=>
   if Nat.ble σ.lock id then
    match Fh P kt k,Gs P et v,σ.get id with
    | some (n,kk),some (u,sz),some (.map [])=>match dH (.ml []) with
      | some j=>(dH (.uS j n u)).map fun j'=>σ.put id (.smap j' kk sz)
      | none=>none
    | some (n,kk),some (u,sz),some (.smap j wI sz')=>
      if Fj kk wI&&Gl sz sz' then (dH (.uS j n u)).map fun j'=>σ.put id (.smap j' kk sz) else none
    | _,_,_=>none
   else none
 | _,_=>none
def mapArg (v:AV):Bool:=match v with
 | .nd n=>(match fF.nodes[n]? with
   | some (.len _)=>true
   | _=>false)
 | v=>(pJ v).isSome
def MK (P:Program) (t:TypeId) (σ:ah) (a v:AV):Option ah:=
 match a with
 | .pv id i off=>match σ.get id with
   | some (.vec m et f)=>
     if σ.lock≤id∧sizeT P t=some v.cells.length then
      match sizeT P et,nodesOf v.cells with
      | some size,some vs=>match dH (.upd size off m i vs) with
        | some m'=>some (σ.put id (.vec m' et f))
        | none=>none
      | _,_=>none
     else none
   | _=>none
 | _=>none
def Td (P:Program) (argTypes:Array TypeId) (s x:AV) (σ:ah):Option (AV×ah):=
 match argTypes.toList with
 | [t,t1]=>
   match pV P t with
   | some (e,size,bytes,_)=>
     if size=0 then none else
     match (match P.underlying t1 with
      | some .string=>if size=1 then match fK x with
         | some n=>dH (.bytes n)
         | none=>none
        else none
      | some (.slice _)=>listOf P σ e x
      | _=>none) with
     | none=>none
     | some b=>
       match s with
       | .dM=>match dH (.ml []) with
         | some a=>(dH (.app size bytes a b)).map fun m=>(.sv σ.next m,σ.new (.vec m e true))
         | none=>none
       | .sv id n=>match σ.get id with
         | some (.vec a et f)=>if Nat.beq et e&&oW 100 a n&&Nat.ble σ.lock id then (dH (.app size bytes a b)).map fun m=>(.sv σ.next m,(σ.kill id).new (.vec m e f)) else none
         | _=>none
       | .sl id 0 0 (some 0)=>match σ.get id with
         | some (.cells [] et true false)=>if Nat.beq et e&&Nat.ble σ.lock id then match dH (.ml []) with
           | some a=>(dH (.app size bytes a b)).map fun m=>(.sv σ.next m,(σ.kill id).new (.vec m e false))
           | none=>none
           else none
         | _=>none
       | .sl id 0 len none=>match σ.get id with
         | some (.cells c et true true)=>if Nat.beq et e&&Nat.ble σ.lock id&&Nat.beq c.length (len * size) then match listOf P σ e (.sl id 0 len none) with
           | some a=>(dH (.app size bytes a b)).map fun m=>(.sv σ.next m,(σ.kill id).new (.vec m e false))
           | none=>none
           else none
         | _=>none
       | _=>none
   | none=>none
 | _=>none
def Jk (P:Program) (e:TypeId) (size len:Nat) (cs:List AV):Option Nat:=
 if cs.any ajx then
  match kX P e with
  | some agg=>if ((agg&&Nat.blt 0 size) || Nat.beq size 1)&&Nat.blt 0 len&&Nat.beq cs.length (len * size) then match elemsOf agg size len cs with
    | some ns=>dH (.ml ns)
    | none=>none
    else none
  | none=>none
 else none
def Jl (P:Program) (σ:ah) (e:TypeId) (size len:Nat) (cs:List AV):Option AV×ah:=
 match Jk P e size len cs with
 | some m=>(some (.sv σ.next m),σ.new (.vec m e false))
 | none=>(some (.sl σ.next 0 len (some len)),σ.new (.cells cs e true false))
def MG (P:Program) (t:TypeId) (len cap:AV) (σ:ah):Option (AV×ah):=
 match P.underlying t with
 | some (.slice e')=>match pV P t,kX P e' with
   | some (e,size,bytes,z),some agg=>
     if size=0 then none else
     match (if agg then xM (.agg z) else (z.head?).bind fK),fK len,fK cap with
     | some zn,some l,some c=>(dH (.rep size bytes zn l c)).map fun m=>(.sv σ.next m,σ.new (.vec m e false))
     | _,_,_=>none
   | _,_=>none
 | _=>none
def Bd (P:Program) (b:Builtin) (argTypes:Array TypeId) (args:List AV) (σ:ah):Option (Option AV×ah):=
 match b,args with
 | .len,[x]=>match argTypes[0]? with
   | some t=>(Ti P t x).map fun v=>(some v,σ)
   | none=>none
 | .append,[s,x]=>(Td P argTypes s x σ).map fun r=>(some r.1,r.2)
 | .min,[x,y]=>match fK x,fK y with
   | some m,some n=>(iD (.mm false m n)).map fun v=>(some v,σ)
   | _,_=>none
 | .max,[x,y]=>match fK x,fK y with
   | some m,some n=>(iD (.mm true m n)).map fun v=>(some v,σ)
   | _,_=>none
 | .unsafeSliceData,[.sv id n]=>match σ.get id with
   | some (.vec m _ true)=>if oW 100 m n then some (some (.pd id n),σ) else none
   | _=>none
 | .unsafeString,[.pd id n,.nd k]=>
   match argTypes.toList with
   | [t,_]=>
     match P.underlying t,σ.get id with
     | some (.pointer e),some (.vec m et _)=>
       if et=e∧e≠0∧P.cellsOf e=1∧σ.lock≤id then
        match fF.nodes[k]? with
        | some (.len n')=>if oW 100 m n&&oW 100 m n' then (iD (.str m)).map fun v=>(some v,σ.kill id) else none
        | _=>none
       else none
     | _,_=>none
   | _=>none
 | _,_=>none
def G6 (P:Program) (name:String) (σ:ah):AV→Option (FuncId×AV)
 | .dD t v=>
   match P.info? t,P.underlying t with
   | some i,some d=>match i.methods.find? (·.name==name) with
     | some m=>match m.path.toList,m.func with
       | [],some (f,ptr)=>match d,ptr with
         | .pointer _,true=>some (f,v)
         | .pointer e,false=>match v with
           | .p id off=>(pK P e σ (.p id off)).map fun x=>(f,x)
           | _=>none
         | _,true=>none
         | _,false=>some (f,v)
       | _,_=>none
     | none=>none
   | _,_=>none
 | _=>none
abbrev Caller:=FuncId→List AV→ah→Option (AV×ah)
def bZ (σ:ah):Option AV→Option (Option AV×ah):=Option.map fun v=>(some v,σ)
def nP:Option (AV×ah)→Option (Option AV×ah):=Option.map fun (v,σ)=>(some v,σ)
def DF:Option ah→Option (Option AV×ah):=Option.map fun σ=>(none,σ)
def zy (P:Program) (b:Builtin) (argTypes:Array TypeId) (args:List AV) (σ:ah):Option (Option AV×ah):=
 match b,args with
 | .len,[x]=>match argTypes[0]? with
   | some t=>bZ σ (GX P σ t x)
   | none=>none
 | .append,[s,x]=>nP (Nu P argTypes s x σ)
 | .copy,[d,x]=>nP (Nw P argTypes d x σ)
 | .clear,[x]=>match argTypes[0]? with
   | some t=>nP (Nv P t x σ)
   | none=>none
 | .cap,[x]=>match argTypes[0]? with
   | some t=>match P.underlying t,x with
     | some (.slice _),.dM=>bZ σ (some (.i .i64 0))
     | some (.slice _),.sl _ _ _ (some c)=>bZ σ (some (.i .i64 c))
     | _,_=>none
   | none=>none
 | .unsafeSliceData,[.dM]=>bZ σ (some .iC)
 | .unsafeSliceData,[.sl id off n cap]=>if n=0∧(cap=none∨cap=some 0) then none else bZ σ (some (.p id off))
 | .unsafeString,[x,.i .i64 n]=>
   match argTypes.toList with
   | [t,_]=>
     if n=0 then (match x with
      | .iC=>bZ σ (some (.s []))
      | .p _ _=>bZ σ (some (.s []))
      | _=>none)
     else match x with
     | .p id off=>match P.underlying t,σ.get id with
       | some (.pointer e),some (.cells c et true opn)=>
         if et=e∧e≠0∧P.cellsOf e=1∧0 < n∧n < 2 ^ 62∧σ.lock≤id then
          match takeN c off n.toNat with
          | some r=>match bytesOf r with
            | some b=>some (some (.s b),σ.put id (.cells c et false opn))
            | none=>none
          | none=>none
         else none
       | _,_=>none
     | _=>none
   | _=>none
 | .min,[x,y]=>match qC x,qC y with
   | some u,some v=>bZ σ ((lS P (Builtin.min_ #[] 0 #[u,v])).bind (jg 4))
   | _,_=>none
 | .max,[x,y]=>match qC x,qC y with
   | some u,some v=>bZ σ ((lS P (Builtin.max_ #[] 0 #[u,v])).bind (jg 4))
   | _,_=>none
 | .min,[x,y,z]=>match qC x,qC y,qC z with
   | some u,some v,some t=>bZ σ ((lS P (Builtin.min_ #[] 0 #[u,v,t])).bind (jg 4))
   | _,_,_=>none
 | _,_=>none
def Tf (b:Builtin) (args:List AV):Bool:=
 match b,args with
 | .append,.dM::_=>!(fF.nodes.isEmpty)
 | _,_=>false
def iE {α:Type} (a:Option α) (b:Unit→Option α):Option α:=
 match a with
 | some x=>some x
 | none=>b ()
theorem oU {α:Type} {a:Option α} {b:Unit→Option α} {x:α} (h:iE a b=some x):a=some x∨b ()=some x:=by
 unfold iE at h;split at h
 ·exact .inl h
 ·exact .inr h
def oK (P:Program) (call:Caller) (o:Oper) (ev:Operand→Option AV) (σ:ah):Option (Option AV×ah):=
 match o.op with
 | .move x | .assign x=>bZ σ (ev x)
 | .pick c a b=>match dB (ev c) with
   | some (.b t)=>bZ σ (if t then ev a else ev b)
   | _=>none
 | .alloc t=>(rV P t).map fun z=>(some (.p σ.next 0),σ.new (.cells z t true false))
 | .box t x=>(ev x).map fun v=>(some (.p σ.next 0),σ.new (.cells v.cells t true false))
 | .build t parts=>match yh ev parts.toList with
   | some ps=>bZ σ (GK P t ps)
   | none=>none
 | .buildSlice t len parts=>
   match pV P t,yh ev parts.toList with
   | some (e,size,_,z),some ps=>
     if len * size > 2 ^ 24 then none else
     match uq (fun i=>some (i * size,size)) (if len * size=0 then [] else gy len z) ps with
     | some cs=>some (Jl P σ e size len cs)
     | none=>none
   | _,_=>none
 | .load t a=>match ev a with
   | some a=>bZ σ (iE (pK P t σ a) fun _=>MC P t σ a)
   | none=>none
 | .store t a x=>match ev a,ev x with
   | some a,some v=>DF (iE (xK P t σ a v) fun _=>MK P t σ a v)
   | _,_=>none
 | .nilCheck x=>match ev x with
   | some (.p id off)=>bZ σ (some (.p id off))
   | some (.rp a off)=>bZ σ (some (.rp a off))
   | some (.rx m off)=>bZ σ (some (.rx m off))
   | some (.pv id m off)=>bZ σ (some (.pv id m off))
   | some (.fn f fs cs)=>bZ σ (some (.fn f fs cs))
   | _=>none
 | .binOp op t x y _=>match ev x,ev y with
   | some a,some b=>bZ σ (iE (nX P op t x y a b) fun _=>L9 P op t a b)
   | _,_=>none
 | .unOp op _ x=>match ev x with
   | some a=>match qC a with
     | some u=>bZ σ ((lS P (Op.unary op u)).bind (jg 4))
     | none=>bZ σ (DR op a)
   | none=>none
 | .convert src dst x=>match ev x with
   | some a=>nP (iE (qZ P src dst a σ) fun _=>Mc P src dst a σ)
   | none=>none
 | .makeInterface t x=>match ev x,Ag P t with
   | some a,some false=>bZ σ (some (.dD t a))
   | _,_=>none
 | .makeFunc (.func f) first caps=>match uM ev first.toList,uM ev caps.toList with
    | some fs,some cs=>bZ σ (some (.fn f fs cs))
    | _,_=>none
 | .makeMap t r=>match r with
   | none=>some (some (.mp σ.next),σ.new (.map []))
   | some h=>match ev h,P.underlying t with
     | some v,some (.map _ _)=>if mapArg v then some (some (.mp σ.next),σ.new (.map [])) else none
     | _,_=>none
 | .makeSlice t l c=>match ev l,ev c with
   | some l,some c=>nP (iE (GZ P t l c σ) fun _=>MG P t l c σ)
   | _,_=>none
 | .slice t x lo hi none=>match ev x,Ar ev lo,Ar ev hi with
   | some v,some lo,some hi=>iE (bZ σ (iE (uD P t σ v lo hi) fun _=>Gj P t v lo hi)) fun _=>nP (MJ P t σ v lo hi)
   | _,_,_=>none
 | .fieldAddr t x f=>match ev x with
   | some a=>bZ σ (iE (GU P t a f) fun _=>Md P t a f)
   | none=>none
 | .field t x f=>match ev x with
   | some a=>bZ σ (GN P t a f)
   | none=>none
 | .indexAddr t x ix=>match ev x,ev ix with
   | some a,some k=>bZ σ (iE (uy P t a k) fun _=>MB P σ t a k)
   | _,_=>none
 | .index t x ix=>match ev x,ev ix with
   | some a,some k=>bZ σ (iE (xJ P t a k) fun _=>Me P t a k)
   | _,_=>none
 | .lookup t m k ok=>match ev m,ev k with
   | some m,some k=>bZ σ (iE (GY P t m k ok σ) fun _=>MF P t m k ok σ)
   | _,_=>none
 | .mapUpdate t m k v | .insert t m k v=>match ev m,ev k,ev v with
   | some m,some k,some v=>DF (iE (G5 P t m k v σ) fun _=>MH P t m k v σ)
   | _,_,_=>none
 | .range t x=>match P.underlying t,ev x with
   | some .string,some (.s s)=>some (some (.p σ.next 0),σ.new (.iter s 0))
   | some (.map _ _),some .lQ=>some (some (.p σ.next 0),σ.new (.iterM none))
   | some (.map _ _),some (.mp id)=>match σ.get id with
     | some (.map _)=>some (some (.p σ.next 0),σ.new (.iterM (some id)))
     | _=>none
   | _,_=>none
 | .next it true=>match ev it with
   | some a=>nP (G7 a σ)
   | none=>none
 | .next it false=>match ev it with
   | some (.p id 0)=>match σ.get id with
     | some (.iterM none)=>some (some (.bV [.b false]),σ)
     | some (.iterM (some m))=>match σ.get m with
       | some (.map [])=>some (some (.bV [.b false]),σ)
       | _=>none
     | _=>none
   | _=>none
 | .typeAssert x _ t ok=>match ev x with
   | some a=>bZ σ (He P a t ok)
   | none=>none
 | .extract x k=>match ev x with
   | some (.bV l)=>bZ σ l[k]?
   | _=>none
 | .call c=>match uM ev c.args.toList with
   | some args=>
     match c.callee with
     | .builtin b=>bif Tf b args then iE (Bd P b c.argTypes args σ) fun _=>zy P b c.argTypes args σ else iE (zy P b c.argTypes args σ) fun _=>Bd P b c.argTypes args σ
     | .value f=>match ev f with
       | some (.fn f fi caps)=>nP (call f (fi++args++caps) σ)
       | _=>none
     | .invoke r name=>match (ev r).bind (G6 P name σ) with
       | some (f,x)=>nP (call f (x::args) σ)
       | none=>none
   | none=>none
 | _=>none
def OJ (op:BinOp) (k:IntKind) (a b:Int):Option AV:=
 match op with
 | .add=>some (.i k (k.wrap (a+b)))
 | .sub=>some (.i k (k.wrap (a - b)))
 | .mul=>some (.i k (k.wrap (a * b)))
 | .eql=>some (.b (a==b))
 | .neq=>some (.b (a != b))
 | .lss=>some (.b (decide (a < b)))
 | .leq=>some (.b (decide (a≤b)))
 | .gtr=>some (.b (decide (a > b)))
 | .geq=>some (.b (decide (a≥b)))
 | _=>none
def OO (op:BinOp) (a b:List UInt8):Option AV:=
 match op with
 | .add=>if a.length+b.length≤9223372036854775807 then some (.s (a++b)) else none
 | .eql=>some (.b (a==b))
 | .neq=>some (.b (!(a==b)))
 | .lss=>some (.b (Op.bytesLess a b))
 | .leq=>some (.b (Op.bytesLess a b || a==b))
 | .gtr=>some (.b (!(Op.bytesLess a b || a==b)))
 | .geq=>some (.b (!(Op.bytesLess a b)))
 | _=>none
def OI (P:Program) (op:BinOp) (t:TypeId) (x y:Operand) (a b:AV):Option AV:=
 match a with
 | .i k m=>match b with
   | .i k' n=>if k=k' then match OJ op k m n with
      | some r=>some r
      | none=>nX P op t x y a b
     else nX P op t x y a b
   | _=>nX P op t x y a b
 | .s u=>match b with
   | .s v=>match OO op u v with
     | some r=>some r
     | none=>nX P op t x y a b
   | _=>nX P op t x y a b
 | _=>nX P op t x y a b
theorem toList_mk (l:List UInt8):(⟨⟨l⟩⟩:ByteArray).toList=l:=by rw [ByteArray.toList_eq]
theorem ahe {P:Program} {op:BinOp} {t:TypeId} {x y:Operand} {k:IntKind} {m n:Int} {r:AV} (h:OJ op k m n=some r):nX P op t x y (.i k m) (.i k n)=some r:=by
 have key:∀v:Value,(do eqGuard op t x y (.int k m) (.int k n);binOp op t (.int k m) (.int k n):Sem Value)=.pure v→jg 4 v=some r→nX P op t x y (.i k m) (.i k n)=some r:=by
  intro v hv hr
  have:nX P op t x y (.i k m) (.i k n)=(lS P (do eqGuard op t x y (.int k m) (.int k n);binOp op t (.int k m) (.int k n):Sem Value)).bind (jg 4):=by
   cases op<;>rfl
  rw [this,hv]
  exact hr
 cases op<;>simp only [OJ,reduceCtorEq,Option.some.injEq] at h<;>subst h
 all_goals refine key _ (by simp only [eqGuard,binOp,ne_eq,not_true_eq_false,if_false,Op.intArith,Op.intCmp];rfl) rfl
theorem Uk (a b:List UInt8):((⟨⟨a⟩⟩:ByteArray)++⟨⟨b⟩⟩)=⟨⟨a++b⟩⟩:=by
 apply ByteArray.ext
 rw [ByteArray.data_append]
 simp
theorem ahF {P:Program} {op:BinOp} {t:TypeId} {x y:Operand} {u v:List UInt8} {r:AV} (h:OO op u v=some r):nX P op t x y (.s u) (.s v)=some r:=by
 have key:∀z:Value,(do eqGuard op t x y (.string ⟨⟨u⟩⟩) (.string ⟨⟨v⟩⟩);binOp op t (.string ⟨⟨u⟩⟩) (.string ⟨⟨v⟩⟩):Sem Value)=.pure z→jg 4 z=some r→nX P op t x y (.s u) (.s v)=some r:=by
  intro z hz hr
  have:nX P op t x y (.s u) (.s v)=(lS P (do eqGuard op t x y (.string ⟨⟨u⟩⟩) (.string ⟨⟨v⟩⟩);binOp op t (.string ⟨⟨u⟩⟩) (.string ⟨⟨v⟩⟩):Sem Value)).bind (jg 4):=by
   cases op<;>rfl
  rw [this,hz]
  exact hr
 cases op<;>simp only [OO,reduceCtorEq,Option.some.injEq] at h
 case add=>
  split at h
  ·next hb=>
   cases h
   have:¬ (((⟨⟨u⟩⟩:ByteArray).size+(⟨⟨v⟩⟩:ByteArray).size:Nat):Int) > IntKind.i64.max:=by
    show ¬ ((u.length+v.length:Nat):Int) > 9223372036854775807
    omega
   exact key (.string ⟨⟨u++v⟩⟩) (by simp only [eqGuard,binOp,Op.stringOp,if_neg this,Uk];rfl) rfl
  ·cases h
 all_goals subst h
 all_goals refine key _ (by simp only [eqGuard,binOp,Op.stringOp,toList_mk];rfl) rfl
theorem ahd (P:Program) (op:BinOp) (t:TypeId) (x y:Operand) (a b:AV):OI P op t x y a b=nX P op t x y a b:=by
 unfold OI
 split
 ·split
  ·split
   ·next hk=>
    subst hk
    split
    ·next r hr=>exact (ahe hr).symm
    ·rfl
   ·rfl
  ·rfl
 ·split
  ·split
   ·next r hr=>exact (ahF hr).symm
   ·rfl
  ·rfl
 ·rfl
def fUn (P:Program) (σ:ah) (op:UnOp) (a:AV):Option (Option AV×ah):=
 match op with
 | .not=>match a with
   | .b x=>some (some (.b (!x)),σ)
   | _=>match qC a with
     | some u=>bZ σ ((lS P (Op.unary op u)).bind (jg 4))
     | none=>bZ σ (DR op a)
 | _=>match qC a with
   | some u=>bZ σ ((lS P (Op.unary op u)).bind (jg 4))
   | none=>bZ σ (DR op a)
def aaL (_P:Program) (_call:Caller) (ev:Operand→Option AV) (σ:ah) (x:Operand):Option (Option AV×ah):=
 bZ σ (ev x)
def ahf (_P:Program) (_call:Caller) (ev:Operand→Option AV) (σ:ah) (c:Operand) (a:Operand) (b:Operand):Option (Option AV×ah):=
 match dB (ev c) with
  | some (.b t)=>bZ σ (if t then ev a else ev b)
  | _=>none
def ahp (P:Program) (_call:Caller) (_ev:Operand→Option AV) (σ:ah) (t:TypeId):Option (Option AV×ah):=
 (rV P t).map fun z=>(some (.p σ.next 0),σ.new (.cells z t true false))
def ahy (_P:Program) (_call:Caller) (ev:Operand→Option AV) (σ:ah) (t:TypeId) (x:Operand):Option (Option AV×ah):=
 (ev x).map fun v=>(some (.p σ.next 0),σ.new (.cells v.cells t true false))
def ahz (P:Program) (_call:Caller) (ev:Operand→Option AV) (σ:ah) (t:TypeId) (parts:Array (Nat×Operand)):Option (Option AV×ah):=
 match yh ev parts.toList with
  | some ps=>bZ σ (GK P t ps)
  | none=>none
def ahA (P:Program) (_call:Caller) (ev:Operand→Option AV) (σ:ah) (t:TypeId) (len:Nat) (parts:Array (Nat×Operand)):Option (Option AV×ah):=
     match pV P t,yh ev parts.toList with
    | some (e,size,_,z),some ps=>
      if len * size > 2 ^ 24 then none else
      match uq (fun i=>some (i * size,size)) (if len * size=0 then [] else gy len z) ps with
      | some cs=>some (Jl P σ e size len cs)
      | none=>none
    | _,_=>none
def ahB (P:Program) (_call:Caller) (ev:Operand→Option AV) (σ:ah) (t:TypeId) (a:Operand):Option (Option AV×ah):=
 match ev a with
  | some a=>bZ σ (iE (pK P t σ a) fun _=>MC P t σ a)
  | none=>none
def ahC (P:Program) (_call:Caller) (ev:Operand→Option AV) (σ:ah) (t:TypeId) (a:Operand) (x:Operand):Option (Option AV×ah):=
 match ev a,ev x with
  | some a,some v=>DF (iE (xK P t σ a v) fun _=>MK P t σ a v)
  | _,_=>none
def ahD (_P:Program) (_call:Caller) (ev:Operand→Option AV) (σ:ah) (x:Operand):Option (Option AV×ah):=
 match ev x with
  | some (.p id off)=>bZ σ (some (.p id off))
  | some (.rp a off)=>bZ σ (some (.rp a off))
  | some (.rx m off)=>bZ σ (some (.rx m off))
  | some (.pv id m off)=>bZ σ (some (.pv id m off))
  | some (.fn f fs cs)=>bZ σ (some (.fn f fs cs))
  | _=>none
def OM (P:Program) (_call:Caller) (ev:Operand→Option AV) (σ:ah) (op:BinOp) (t:TypeId) (x:Operand) (y:Operand):Option (Option AV×ah):=
 match ev x,ev y with
  | some a,some b=>bZ σ (iE (OI P op t x y a b) fun _=>L9 P op t a b)
  | _,_=>none
def OL (P:Program) (_call:Caller) (ev:Operand→Option AV) (σ:ah) (op:UnOp) (x:Operand):Option (Option AV×ah):=
 match ev x with
  | some a=>fUn P σ op a
  | none=>none
def ahg (P:Program) (_call:Caller) (ev:Operand→Option AV) (σ:ah) (src:TypeId) (dst:TypeId) (x:Operand):Option (Option AV×ah):=
 match ev x with
  | some a=>nP (iE (qZ P src dst a σ) fun _=>Mc P src dst a σ)
  | none=>none
def ahh (P:Program) (_call:Caller) (ev:Operand→Option AV) (σ:ah) (t:TypeId) (x:Operand):Option (Option AV×ah):=
 match ev x,Ag P t with
  | some a,some false=>bZ σ (some (.dD t a))
  | _,_=>none
def ahi (_P:Program) (_call:Caller) (ev:Operand→Option AV) (σ:ah) (f:FuncId) (first:Array Operand) (caps:Array Operand):Option (Option AV×ah):=
 match uM ev first.toList,uM ev caps.toList with
  | some fs,some cs=>bZ σ (some (.fn f fs cs))
  | _,_=>none
def ahj (P:Program) (_call:Caller) (ev:Operand→Option AV) (σ:ah) (t:TypeId) (r:Option Operand):Option (Option AV×ah):=
 match r with
  | none=>some (some (.mp σ.next),σ.new (.map []))
  | some h=>match ev h,P.underlying t with
    | some v,some (.map _ _)=>if mapArg v then some (some (.mp σ.next),σ.new (.map [])) else none
    | _,_=>none
def ahk (P:Program) (_call:Caller) (ev:Operand→Option AV) (σ:ah) (t:TypeId) (l:Operand) (c:Operand):Option (Option AV×ah):=
 match ev l,ev c with
  | some l,some c=>nP (iE (GZ P t l c σ) fun _=>MG P t l c σ)
  | _,_=>none
def ahl (P:Program) (_call:Caller) (ev:Operand→Option AV) (σ:ah) (t:TypeId) (x:Operand) (lo:Option Operand) (hi:Option Operand):Option (Option AV×ah):=
 match ev x,Ar ev lo,Ar ev hi with
  | some v,some lo,some hi=>iE (bZ σ (iE (uD P t σ v lo hi) fun _=>Gj P t v lo hi)) fun _=>nP (MJ P t σ v lo hi)
  | _,_,_=>none
def ahm (P:Program) (_call:Caller) (ev:Operand→Option AV) (σ:ah) (t:TypeId) (x:Operand) (f:Nat):Option (Option AV×ah):=
 match ev x with
  | some a=>bZ σ (iE (GU P t a f) fun _=>Md P t a f)
  | none=>none
def ahn (P:Program) (_call:Caller) (ev:Operand→Option AV) (σ:ah) (t:TypeId) (x:Operand) (f:Nat):Option (Option AV×ah):=
 match ev x with
  | some a=>bZ σ (GN P t a f)
  | none=>none
def aho (P:Program) (_call:Caller) (ev:Operand→Option AV) (σ:ah) (t:TypeId) (x:Operand) (ix:Operand):Option (Option AV×ah):=
 match ev x,ev ix with
  | some a,some k=>bZ σ (iE (uy P t a k) fun _=>MB P σ t a k)
  | _,_=>none
def ahq (P:Program) (_call:Caller) (ev:Operand→Option AV) (σ:ah) (t:TypeId) (x:Operand) (ix:Operand):Option (Option AV×ah):=
 match ev x,ev ix with
  | some a,some k=>bZ σ (iE (xJ P t a k) fun _=>Me P t a k)
  | _,_=>none
def ahr (P:Program) (_call:Caller) (ev:Operand→Option AV) (σ:ah) (t:TypeId) (m:Operand) (k:Operand) (ok:Bool):Option (Option AV×ah):=
 match ev m,ev k with
  | some m,some k=>bZ σ (iE (GY P t m k ok σ) fun _=>MF P t m k ok σ)
  | _,_=>none
def aaM (P:Program) (_call:Caller) (ev:Operand→Option AV) (σ:ah) (t:TypeId) (m:Operand) (k:Operand) (v:Operand):Option (Option AV×ah):=
 match ev m,ev k,ev v with
  | some m,some k,some v=>DF (iE (G5 P t m k v σ) fun _=>MH P t m k v σ)
  | _,_,_=>none
def ahs (P:Program) (_call:Caller) (ev:Operand→Option AV) (σ:ah) (t:TypeId) (x:Operand):Option (Option AV×ah):=
 match P.underlying t,ev x with
  | some .string,some (.s s)=>some (some (.p σ.next 0),σ.new (.iter s 0))
  | some (.map _ _),some .lQ=>some (some (.p σ.next 0),σ.new (.iterM none))
  | some (.map _ _),some (.mp id)=>match σ.get id with
    | some (.map _)=>some (some (.p σ.next 0),σ.new (.iterM (some id)))
    | _=>none
  | _,_=>none
def aht (_P:Program) (_call:Caller) (ev:Operand→Option AV) (σ:ah) (it:Operand):Option (Option AV×ah):=
 match ev it with
  | some a=>nP (G7 a σ)
  | none=>none
def ahu (_P:Program) (_call:Caller) (ev:Operand→Option AV) (σ:ah) (it:Operand):Option (Option AV×ah):=
 match ev it with
  | some (.p id 0)=>match σ.get id with
    | some (.iterM none)=>some (some (.bV [.b false]),σ)
    | some (.iterM (some m))=>match σ.get m with
      | some (.map [])=>some (some (.bV [.b false]),σ)
      | _=>none
    | _=>none
  | _=>none
def ahv (P:Program) (_call:Caller) (ev:Operand→Option AV) (σ:ah) (x:Operand) (t:TypeId) (ok:Bool):Option (Option AV×ah):=
 match ev x with
  | some a=>bZ σ (He P a t ok)
  | none=>none
def ahw (_P:Program) (_call:Caller) (ev:Operand→Option AV) (σ:ah) (x:Operand) (k:Nat):Option (Option AV×ah):=
 match ev x with
  | some (.bV l)=>bZ σ l[k]?
  | _=>none
def ahx (P:Program) (call:Caller) (ev:Operand→Option AV) (σ:ah) (c:Call):Option (Option AV×ah):=
 match uM ev c.args.toList with
  | some args=>
    match c.callee with
    | .builtin b=>bif Tf b args then iE (Bd P b c.argTypes args σ) fun _=>zy P b c.argTypes args σ else iE (zy P b c.argTypes args σ) fun _=>Bd P b c.argTypes args σ
    | .value f=>match ev f with
      | some (.fn f fi caps)=>nP (call f (fi++args++caps) σ)
      | _=>none
    | .invoke r name=>match (ev r).bind (G6 P name σ) with
      | some (f,x)=>nP (call f (x::args) σ)
      | none=>none
  | none=>none
structure TW where
 f:Program→Caller→(Operand→Option AV)→ah→Option (Option AV×ah)
def opF (o:Op):TW:=
 Op.casesOn (motive:=fun _=>TW) o
  (fun x=>⟨fun P call ev σ=>aaL P call ev σ x⟩)
  (fun x=>⟨fun P call ev σ=>aaL P call ev σ x⟩)
  (fun c a b=>⟨fun P call ev σ=>ahf P call ev σ c a b⟩)
  (fun t=>⟨fun P call ev σ=>ahp P call ev σ t⟩)
  (fun t x=>⟨fun P call ev σ=>ahy P call ev σ t x⟩)
  (fun t parts=>⟨fun P call ev σ=>ahz P call ev σ t parts⟩)
  (fun t len parts=>⟨fun P call ev σ=>ahA P call ev σ t len parts⟩)
  (fun t m k v=>⟨fun P call ev σ=>aaM P call ev σ t m k v⟩)
  (fun t a=>⟨fun P call ev σ=>ahB P call ev σ t a⟩)
  (fun t a x=>⟨fun P call ev σ=>ahC P call ev σ t a x⟩)
  (fun _=>⟨fun _P _call _ev _σ=>none⟩)
  (fun _=>⟨fun _P _call _ev _σ=>none⟩)
  (fun x=>⟨fun P call ev σ=>ahD P call ev σ x⟩)
  (fun op t x y _=>⟨fun P call ev σ=>OM P call ev σ op t x y⟩)
  (fun op _ x=>⟨fun P call ev σ=>OL P call ev σ op x⟩)
  (fun src dst x=>⟨fun P call ev σ=>ahg P call ev σ src dst x⟩)
  (fun _ _=>⟨fun _P _call _ev _σ=>none⟩)
  (fun t x=>⟨fun P call ev σ=>ahh P call ev σ t x⟩)
  (fun fn first caps=>⟨fun P call ev σ=>match fn with | .func f=>ahi P call ev σ f first caps | _=>none⟩)
  (fun t r=>⟨fun P call ev σ=>ahj P call ev σ t r⟩)
  (fun _ _=>⟨fun _P _call _ev _σ=>none⟩)
  (fun t l c=>⟨fun P call ev σ=>ahk P call ev σ t l c⟩)
  (fun t x lo hi mx=>⟨fun P call ev σ=>match mx with | none=>ahl P call ev σ t x lo hi | some _=>none⟩)
  (fun t x f=>⟨fun P call ev σ=>ahm P call ev σ t x f⟩)
  (fun t x f=>⟨fun P call ev σ=>ahn P call ev σ t x f⟩)
  (fun t x ix=>⟨fun P call ev σ=>aho P call ev σ t x ix⟩)
  (fun t x ix=>⟨fun P call ev σ=>ahq P call ev σ t x ix⟩)
  (fun t m k ok=>⟨fun P call ev σ=>ahr P call ev σ t m k ok⟩)
  (fun t m k v=>⟨fun P call ev σ=>aaM P call ev σ t m k v⟩)
  (fun _ _ _=>⟨fun _P _call _ev _σ=>none⟩)
  (fun _ _ _ _=>⟨fun _P _call _ev _σ=>none⟩)
  (fun t x=>⟨fun P call ev σ=>ahs P call ev σ t x⟩)
  (fun it b=>⟨fun P call ev σ=>bif b then aht P call ev σ it else ahu P call ev σ it⟩)
  (fun _=>⟨fun _P _call _ev _σ=>none⟩)
  (fun x _ t ok=>⟨fun P call ev σ=>ahv P call ev σ x t ok⟩)
  (fun x k=>⟨fun P call ev σ=>ahw P call ev σ x k⟩)
  (fun c=>⟨fun P call ev σ=>ahx P call ev σ c⟩)
  (fun _=>⟨fun _P _call _ev _σ=>none⟩)
  (fun _=>⟨fun _P _call _ev _σ=>none⟩)
  (fun _=>⟨fun _P _call _ev _σ=>none⟩)
  (fun _ _=>⟨fun _P _call _ev _σ=>none⟩)
  (fun _ _ _=>⟨fun _P _call _ev _σ=>none⟩)
  (fun _ _=>⟨fun _P _call _ev _σ=>none⟩)
def sH (P:Program) (call:Caller) (o:Oper) (ev:Operand→Option AV) (σ:ah):Option (Option AV×ah):=(opF o.op).f P call ev σ
theorem ahG (P:Program) (σ:ah) (op:UnOp) (a:AV):fUn P σ op a=match qC a with
 | some u=>bZ σ ((lS P (Op.unary op u)).bind (jg 4))
 | none=>bZ σ (DR op a):=by
 cases op<;>first | rfl | skip
 cases a<;>rfl
theorem vW (P:Program) (call:Caller) (o:Oper) (ev:Operand→Option AV) (σ:ah):sH P call o ev σ=oK P call o ev σ:=by
 obtain ⟨dst,op,type,pos,after,guard⟩:=o
 cases op with
 | binOp op t x y _=>
   show OM P call ev σ op t x y=_
   simp only [OM,ahd,oK]
 | unOp op _ x=>
   show OL P call ev σ op x=_
   simp only [OL,ahG,oK]
 | slice t x lo hi mx=>cases mx<;>rfl
 | makeFunc fn _ _=>cases fn<;>rfl
 | next it b=>cases b<;>rfl
 | _=>rfl
def Bq (o:Oper) (ops:Array Oper) (a:aY):Option Bool:=
 match o.guard with
 | none=>some true
 | some (j,want)=>
   match ops[j]? with
   | some q=>match q.dst with
     | some d=>match dB (a.t.get d) with
       | some (.b x)=>some (x==want)
       | some (.bV _)=>some false
       | _=>none
     | none=>none
   | none=>none
def Nz (P:Program) (call:Caller) (ops:Array Oper) (i:Nat) (a:aY) (σ:ah):Option (aY×ah):=
 match ops[i]? with
 | none=>none
 | some o=>
   match Bq o ops a with
   | none=>none
   | some false=>(a.put o.dst (some (.bV []))).map (·,σ)
   | some true=>
     match sH P call o a.eval σ with
     | none=>none
     | some (v,σ')=>(a.put o.dst v).map (·,σ')
def BI (P:Program) (call:Caller) (ops:Array Oper):List Nat→aY→ah→Option (aY×ah)
 | [],a,σ=>some (a,σ)
 | i::rest,a,σ=>
   match Nz P call ops i a σ with
   | some (a',σ')=>BI P call ops rest a' σ'
   | none=>none
inductive dw where
 | normal
 | exit (id:Nat)
 | ret
def uz (P:Program) (σ:ah) (a:aY):List ResultVar→Option (List AV)
 | []=>some []
 | .tmp t::rs=>match a.t.get t,uz P σ a rs with
   | some v,some r=>some (v::r)
   | _,_=>none
 | .cell t ty::rs=>match (a.t.get t).bind (pK P ty σ),uz P σ a rs with
   | some v,some r=>some (v::r)
   | _,_=>none
def Bh:List AV→AV
 | [v]=>v
 | l=>.bV l
def su:List AV→Nat→Tr AV→Tr AV
 | [],_,t=>t
 | v::vs,k,t=>su vs (k+1) (t.set k (some v))
abbrev tZ:=Array Oper→aY→ah→Option (aY×ah)
abbrev qF:=FuncId→Option (List AV→ah→Option (AV×ah))
def zJ (P:Program) (pr:qF) (run:Code→aY→ah→Option (dw×aY×ah)):Caller:=fun f args σ=>
 match pr f with
 | some g=>g args σ
 | none=>
   match P.funcs[f]? with
   | none=>none
   | some fn=>match fn.body with
     | none=>none
     | some c=>
       match run c { t:=su args 0 .nil,n:=max args.length fn.ntmps,gn:=P.globals.size } σ with
       | some (.normal,a',σ') | some (.ret,a',σ')=>(uz P σ' a' fn.results.toList).map fun l=>(Bh l,σ')
       | _=>none
def nZ (P:Program) (dr:Caller→tZ) (pr:qF) (run:Code→aY→ah→Option (dw×aY×ah)) (c:Code) (a:aY) (σ:ah):Option (dw×aY×ah):=
 match c with
 | .skip=>some (.normal,a,σ)
 | .region _ ops false=>(BI P (zJ P pr run) ops (List.range ops.size) a σ).map fun (a,σ)=>(.normal,a,σ)
 | .region _ ops true=>(dr (zJ P pr run) ops a σ).map fun (a,σ)=>(.normal,a,σ)
 | .seq x y=>
   match run x a σ with
   | some (.normal,a',σ')=>run y a' σ'
   | r=>r
 | .cond x y z=>
   match dB (a.eval x) with
   | some (.b t)=>run (if t then y else z) a σ
   | _=>none
 | .block id b=>
   match run b a σ with
   | some (.exit id',a',σ')=>if id'=id then some (.normal,a',σ') else some (.exit id',a',σ')
   | r=>r
 | .loop b=>
   match run b a σ with
   | some (.normal,a',σ')=>run (.loop b) a' σ'
   | r=>r
 | .exit id=>some (.exit id,a,σ)
 | .ret=>some (.ret,a,σ)
 | _=>none
structure rW where
 f:Program→(Caller→tZ)→qF→(Code→aY→ah→Option (dw×aY×ah))→aY→ah→Option (dw×aY×ah)
def afH:rW:=⟨fun _ _ _ _ a σ=>some (.normal,a,σ)⟩
def afE (ops:Array Oper) (d:Bool):rW:=bif d then ⟨fun P dr pr run a σ=>(dr (zJ P pr run) ops a σ).map fun (a,σ)=>(.normal,a,σ)⟩
 else ⟨fun P _ pr run a σ=>(BI P (zJ P pr run) ops (List.range ops.size) a σ).map fun (a,σ)=>(.normal,a,σ)⟩
def afG (x y:Code):rW:=⟨fun _ _ _ run a σ=>match run x a σ with
    | some (.normal,a',σ')=>run y a' σ'
    | r=>r⟩
def afB (x:Operand) (y z:Code):rW:=⟨fun _ _ _ run a σ=>match dB (a.eval x) with
    | some (.b t)=>run (if t then y else z) a σ
    | _=>none⟩
def afA (id:Nat) (b:Code):rW:=⟨fun _ _ _ run a σ=>match run b a σ with
    | some (.exit id',a',σ')=>if id'=id then some (.normal,a',σ') else some (.exit id',a',σ')
    | r=>r⟩
def afD (b:Code):rW:=⟨fun _ _ _ run a σ=>match run b a σ with
    | some (.normal,a',σ')=>run (.loop b) a' σ'
    | r=>r⟩
def afC (id:Nat):rW:=⟨fun _ _ _ _ a σ=>some (.exit id,a,σ)⟩
def afF:rW:=⟨fun _ _ _ _ a σ=>some (.ret,a,σ)⟩
def Ew:rW:=⟨fun _ _ _ _ _ _=>none⟩
def codeF (c:Code):rW:=
 Code.casesOn (motive:=fun _=>rW) c
  afH
  (fun _ ops d=>afE ops d)
  (fun x y=>afG x y)
  (fun x y z=>afB x y z)
  (fun id b=>afA id b)
  (fun b=>afD b)
  (fun _ _ _ _=>Ew)
  (fun id=>afC id)
  (fun _=>Ew)
  (fun _=>Ew)
  (fun _=>Ew)
  afF
  (fun _=>Ew)
theorem codeF_eq (P:Program) (dr:Caller→tZ) (pr:qF) (run:Code→aY→ah→Option (dw×aY×ah)) (c:Code) (a:aY) (σ:ah):(codeF c).f P dr pr run a σ=nZ P dr pr run c a σ:=by
 cases c with
 | region id ops d=>cases d<;>rfl
 | _=>rfl
def xI (P:Program) (dr:Caller→tZ) (pr:qF) (n:Nat):Code→aY→ah→Option (dw×aY×ah):=
 Nat.rec (motive:=fun _=>Code→aY→ah→Option (dw×aY×ah)) (fun _ _ _=>none) (fun _ run c a σ=>(codeF c).f P dr pr run a σ) n
theorem Uf (P:Program) (dr:Caller→tZ) (pr:qF) (c:Code) (a:aY) (σ:ah):xI P dr pr 0 c a σ=none:=rfl
theorem pI (P:Program) (dr:Caller→tZ) (pr:qF) (n:Nat) (c:Code) (a:aY) (σ:ah):xI P dr pr (n+1) c a σ=nZ P dr pr (xI P dr pr n) c a σ:=codeF_eq P dr pr _ c a σ
def Ue (P:Program) (dr:Caller→tZ) (pr:qF) (n:Nat):Caller:=zJ P pr (xI P dr pr n)
end
end Go.aP
namespace Go.aP
noncomputable section
variable [aC]
set_option linter.unusedSectionVars false
set_option linter.unusedVariables false
theorem BD {η:Env}:∀ {l:List AV} {vs:List Value},aj η l vs↔l.length=vs.length∧∀ (k:Nat) a x,l[k]? = some a→vs[k]? = some x→VR η a x
 | [],vs=>by
   simp only [aj]
   constructor
   ·rintro rfl;simp
   ·rintro ⟨h,_⟩;cases vs with
    | nil=>rfl
    | cons _ _=>simp at h
 | a::l,vs=>by
   simp only [aj]
   constructor
   ·rintro ⟨x,xs,rfl,h1,h2⟩
    have ih:=(BD (l:=l) (vs:=xs)).1 h2
    refine ⟨by simp [ih.1], ?_⟩
    intro k b y hk hy
    cases k with
    | zero=>simp at hk hy;subst hk;subst hy;exact h1
    | succ k=>simp at hk hy;exact ih.2 k b y hk hy
   ·rintro ⟨hl,h⟩
    cases vs with
    | nil=>simp at hl
    | cons x xs=>
      refine ⟨x,xs,rfl,h 0 a x (by simp) (by simp),(BD (l:=l) (vs:=xs)).2 ⟨by simpa using hl, ?_⟩⟩
      intro k b y hk hy
      exact h (k+1) b y (by simpa using hk) (by simpa using hy)
theorem aj.length {η:Env} {l:List AV} {vs:List Value} (h:aj η l vs):l.length=vs.length:=(BD.1 h).1
theorem aj.at {η:Env} {l:List AV} {vs:List Value} (h:aj η l vs) {k:Nat} {a:AV} (hk:l[k]? = some a):∃x,vs[k]? = some x∧VR η a x:=by
 have h':=BD.1 h
 obtain ⟨hlt,rfl⟩:=List.getElem?_eq_some_iff.1 hk
 have:k < vs.length:=by omega
 exact ⟨vs[k],List.getElem?_eq_getElem this,h'.2 k _ _ hk (List.getElem?_eq_getElem this)⟩
theorem aj.of {η:Env} {l:List AV} {vs:List Value} (hl:l.length=vs.length) (h:∀ (k:Nat) a,l[k]? = some a→∃x,vs[k]? = some x∧VR η a x):aj η l vs:=
 BD.2 ⟨hl,fun k a x hk hx=>by obtain ⟨y,hy,hv⟩:=h k a hk;rw [hx] at hy;cases hy;exact hv⟩
theorem aj.append {η:Env} {l l':List AV} {vs vs':List Value} (h:aj η l vs) (h':aj η l' vs'):aj η (l++l') (vs++vs'):=by
 induction l generalizing vs with
 | nil=>simp only [aj] at h;subst h;simpa using h'
 | cons a l ih=>
   simp only [aj] at h
   obtain ⟨x,xs,rfl,h1,h2⟩:=h
   exact ⟨x,xs++vs',rfl,h1,ih h2⟩
theorem aj.take {η:Env} {l:List AV} {vs:List Value} (h:aj η l vs) (n:Nat):aj η (l.take n) (vs.take n):=by
 induction n generalizing l vs with
 | zero=>simp [aj]
 | succ n ih=>cases l with
   | nil=>simp only [aj] at h;subst h;simp [aj]
   | cons a l=>
     simp only [aj] at h
     obtain ⟨x,xs,rfl,h1,h2⟩:=h
     exact ⟨x,xs.take n,by simp,h1,ih h2⟩
theorem aj.drop {η:Env} {l:List AV} {vs:List Value} (h:aj η l vs) (n:Nat):aj η (l.drop n) (vs.drop n):=by
 induction n generalizing l vs with
 | zero=>simpa using h
 | succ n ih=>cases l with
   | nil=>simp only [aj] at h;subst h;simp [aj]
   | cons a l=>
     simp only [aj] at h
     obtain ⟨x,xs,rfl,h1,h2⟩:=h
     simpa using ih h2
theorem aj.cons {η:Env} {a:AV} {l:List AV} {x:Value} {vs:List Value} (h:VR η a x) (h':aj η l vs):aj η (a::l) (x::vs):=⟨x,vs,rfl,h,h'⟩
structure Env.le (η η':Env):Prop where
 pl:∀id q,η id=some q→η' id=some q
 ro:∀b o,η.ro b=some o→η'.ro b=some o
 gh:∀id,η.gh id=true→η'.gh id=true
theorem Env.le.refl (η:Env):η.le η:=⟨fun _ _ h=>h,fun _ _ h=>h,fun _ h=>h⟩
theorem Env.le.trans {a b c:Env} (h:a.le b) (h':b.le c):a.le c:=⟨fun id q hq=>h'.pl id q (h.pl id q hq),fun b o ho=>h'.ro b o (h.ro b o ho),fun id hq=>h'.gh id (h.gh id hq)⟩
def Env.has (η:Env) (id:Nat):Prop:=(∃q,η id=some q)∨η.gh id=true
theorem Env.has.mono {η η':Env} {id:Nat} (h:η.has id) (hle:η.le η'):η'.has id:=h.elim (fun ⟨q,hq⟩=>.inl ⟨q,hle.pl _ _ hq⟩) fun hg=>.inr (hle.gh _ hg)
mutual
theorem GR.mono {ro ro':Nat→Option Obj} (h:∀b o,ro b=some o→ro' b=some o):∀ (a:GV) (v:Value),GR ro a v→GR ro' a v
 | .b _,_,hv=>by simpa only [GR] using hv
 | .i _ _,_,hv=>by simpa only [GR] using hv
 | .s _,_,hv=>by simpa only [GR] using hv
 | .g l,_,hv=>by simp only [GR] at hv ⊢;obtain ⟨x,e,h1⟩:=hv;exact ⟨x,e,aS.mono h l x h1⟩
 | .l xs,_,hv=>by
   simp only [GR] at hv ⊢
   rcases hv with hv | ⟨bl,off,c,ys,sz,e,hc,h1,h2,h3⟩
   ·exact .inl hv
   exact .inr ⟨bl,off,c,ys,sz,e,hc,aS.mono h xs ys h1,h2,fun hn=>by obtain ⟨cs,elem,fr,h4,h5⟩:=h3 hn;exact ⟨cs,elem,fr,h _ _ h4,h5⟩⟩
theorem aS.mono {ro ro':Nat→Option Obj} (h:∀b o,ro b=some o→ro' b=some o):∀ (l:List GV) (vs:List Value),aS ro l vs→aS ro' l vs
 | [],_,hv=>by simpa only [aS] using hv
 | a::l,_,hv=>by
   simp only [aS] at hv ⊢
   obtain ⟨x,xs,e,h1,h2⟩:=hv
   exact ⟨x,xs,e,GR.mono h a x h1,aS.mono h l xs h2⟩
end
mutual
theorem VR.mono {η η':Env} (h:η.le η'):∀ (a:AV) (v:Value),VR η a v→VR η' a v
 | .b _,_,hv=>by simpa only [VR] using hv
 | .i _ _,_,hv=>by simpa only [VR] using hv
 | .s _,_,hv=>by simpa only [VR] using hv
 | .iC,_,hv=>by simpa only [VR] using hv
 | .p _ _,_,hv=>by simp only [VR] at hv ⊢;obtain ⟨q,hq,e⟩:=hv;exact ⟨q,h.pl _ _ hq,e⟩
 | .dM,_,hv=>by simpa only [VR] using hv
 | .sl _ _ _ _,_,hv=>by simp only [VR] at hv ⊢;obtain ⟨q,hq,e⟩:=hv;exact ⟨q,h.pl _ _ hq,e⟩
 | .lQ,_,hv=>by simpa only [VR] using hv
 | .mp _,_,hv=>by simp only [VR] at hv ⊢;obtain ⟨q,hq,e⟩:=hv;exact ⟨q,h.pl _ _ hq,e⟩
 | .sZ,_,hv=>by simpa only [VR] using hv
 | .fn _ fi cs,_,hv=>by
   simp only [VR] at hv ⊢
   obtain ⟨us,vs,e,h1,h2⟩:=hv
   exact ⟨us,vs,e,aj.mono h fi us h1,aj.mono h cs vs h2⟩
 | .nO,_,hv=>by simpa only [VR] using hv
 | .dD _ a,_,hv=>by simp only [VR] at hv ⊢;obtain ⟨x,e,h1⟩:=hv;exact ⟨x,e,VR.mono h a x h1⟩
 | .agg l,_,hv=>by simp only [VR] at hv ⊢;obtain ⟨x,e,h1⟩:=hv;exact ⟨x,e,aj.mono h l x h1⟩
 | .bV l,_,hv=>by simp only [VR] at hv ⊢;obtain ⟨x,e,h1⟩:=hv;exact ⟨x,e,aj.mono h l x h1⟩
 | .z _ _ _,_,hv=>by simpa only [VR] using hv
 | .ro l,_,hv=>by
   simp only [VR] at hv ⊢
   rcases hv with hv | ⟨bl,off,c,xs,sz,e,hc,h1,h2,h3⟩
   ·exact .inl hv
   refine .inr ?_
   exact ⟨bl,off,c,xs,sz,e,hc,aj.mono h l xs h1,h2,fun hn=>by obtain ⟨cs,elem,fr,h4,h5⟩:=h3 hn;exact ⟨cs,elem,fr,h.ro _ _ h4,h5⟩⟩
 | .rp a _,_,hv=>by
   simp only [VR] at hv ⊢
   obtain ⟨bl,base,cs,elem,fr,x,h1,h2,h3⟩:=hv
   exact ⟨bl,base,cs,elem,fr,x,h.ro _ _ h1,VR.mono h a x h2,h3⟩
 | .nd _,_,hv=>by simp only [VR] at hv ⊢;obtain ⟨g,h1,h2,h3⟩:=hv;exact ⟨g,h1,h2,GR.mono h.ro _ _ h3⟩
 | .rx _ _,_,hv=>by simp only [VR] at hv ⊢;obtain ⟨g,bl,base,cs,elem,fr,x,h1,h2,h3,h4⟩:=hv;exact ⟨g,bl,base,cs,elem,fr,x,h1,h.ro _ _ h2,GR.mono h.ro _ _ h3,h4⟩
 | .sv _ _,_,hv=>by
   simp only [VR] at hv ⊢
   obtain ⟨xs,h1,⟨q,hq,h2⟩ | ⟨hg,h2⟩⟩:=hv
   ·exact ⟨xs,h1,.inl ⟨q,h.pl _ _ hq,h2⟩⟩
   ·exact ⟨xs,h1,.inr ⟨h.gh _ hg,h2⟩⟩
 | .pv _ _ _,_,hv=>by simp only [VR] at hv ⊢;obtain ⟨q,k,i,hq,h2⟩:=hv;exact ⟨q,k,i,h.pl _ _ hq,h2⟩
 | .pd _ _,_,hv=>by
   simp only [VR] at hv ⊢
   obtain ⟨xs,p,h1,h2,h3⟩:=hv
   exact ⟨xs,p,h1,h2,fun hn=>by obtain ⟨q,hq,h4⟩:=h3 hn;exact ⟨q,h.pl _ _ hq,h4⟩⟩
theorem aj.mono {η η':Env} (h:η.le η'):∀ (l:List AV) (vs:List Value),aj η l vs→aj η' l vs
 | [],_,hv=>by simpa only [aj] using hv
 | a::l,_,hv=>by
   simp only [aj] at hv ⊢
   obtain ⟨x,xs,e,h1,h2⟩:=hv
   exact ⟨x,xs,e,VR.mono h a x h1,aj.mono h l xs h2⟩
end
theorem Dt {α β:Type} {f:α→Option β}:∀ {l:List α} {r:List β},ou f l=some r→l.length=r.length∧∀ (k:Nat) x,l[k]? = some x→∃y,r[k]? = some y∧f x=some y
 | [],r,h=>by simp [ou] at h;subst h;simp
 | x::xs,r,h=>by
   simp only [ou] at h
   split at h
   ·cases h
   ·rename_i y hy
    split at h
    ·cases h
    ·rename_i ys hys
     cases h
     have ih:=Dt hys
     refine ⟨by simp [ih.1],fun k z hz=>?_⟩
     cases k with
     | zero=>simp at hz;subst hz;exact ⟨y,by simp,hy⟩
     | succ k=>simp at hz;obtain ⟨u,hu,hf⟩:=ih.2 k z hz;exact ⟨u,by simpa using hu,hf⟩
theorem aez {η:Env}:∀ (n:Nat) (a:AV) (v:Value),a.toVal n=some v→VR η a v:=by
 intro n
 induction n with
 | zero=>intro a v h;simp [AV.toVal] at h
 | succ n ih=>
   intro a v h
   have lst:∀ (l:List AV) (vs:List Value),ou (AV.toVal n) l=some vs→aj η l vs:=fun l vs hl=>by
    have:=Dt hl
    exact aj.of this.1 fun k a hk=>by obtain ⟨y,hy,hf⟩:=this.2 k a hk;exact ⟨y,hy,ih _ _ hf⟩
   cases a<;>simp only [AV.toVal,Option.map_eq_some_iff,Option.some.injEq] at h<;>simp only [VR]<;>first | exact h.symm | (cases h;done) | skip
   case dD t a=>obtain ⟨y,h1,h2⟩:=h;exact ⟨_,h2.symm,ih _ _ h1⟩
   case agg l=>obtain ⟨y,h1,h2⟩:=h;exact ⟨_,h2.symm,lst _ _ h1⟩
   case bV l=>obtain ⟨y,h1,h2⟩:=h;exact ⟨_,h2.symm,lst _ _ h1⟩
theorem aeB {η:Env}:∀ (n:Nat) (a:AV) (v x:Value),a.toVal n=some v→VR η a x→x=v:=by
 intro n
 induction n with
 | zero=>intro a v x h;simp [AV.toVal] at h
 | succ n ih=>
   intro a v x h hx
   have lst:∀ (l:List AV) (vs us:List Value),ou (AV.toVal n) l=some vs→aj η l us→us=vs:=fun l vs us hl hu=>by
    have h1:=Dt hl
    have h2:=BD.1 hu
    apply List.ext_getElem?
    intro k
    by_cases hk:k < l.length
    ·obtain ⟨y,hy,hf⟩:=h1.2 k _ (List.getElem?_eq_getElem hk)
     obtain ⟨z,hz,hv⟩:=hu.at (List.getElem?_eq_getElem hk)
     rw [hy,hz,ih _ _ _ hf hv]
    ·rw [List.getElem?_eq_none (by omega),List.getElem?_eq_none (by omega)]
   cases a<;>simp only [AV.toVal,Option.map_eq_some_iff,Option.some.injEq] at h<;>simp only [VR] at hx<;>first | exact hx.trans h | (cases h;done) | skip
   case dD t a=>obtain ⟨y,h1,h2⟩:=h;obtain ⟨z,rfl,hz⟩:=hx;rw [← h2,ih _ _ _ h1 hz]
   case agg l=>obtain ⟨y,h1,h2⟩:=h;obtain ⟨z,rfl,hz⟩:=hx;rw [← h2,lst _ _ _ h1 hz]
   case bV l=>obtain ⟨y,h1,h2⟩:=h;obtain ⟨z,rfl,hz⟩:=hx;rw [← h2,lst _ _ _ h1 hz]
theorem wM {η:Env}:∀ (n:Nat) (v:Value) (a:AV),jg n v=some a→VR η a v:=by
 intro n
 induction n with
 | zero=>intro v a h;simp [jg] at h
 | succ n ih=>
   intro v a h
   have lst:∀ (vs:List Value) (l:List AV),ou (jg n) vs=some l→aj η l vs:=fun vs l hl=>by
    have h1:=Dt hl
    refine aj.of h1.1.symm fun k a hk=>?_
    have hlt:k < vs.length:=by have:=(List.getElem?_eq_some_iff.1 hk).1;omega
    obtain ⟨y,hy,hf⟩:=h1.2 k _ (List.getElem?_eq_getElem hlt)
    rw [hk] at hy;cases hy
    exact ⟨_,List.getElem?_eq_getElem hlt,ih _ _ hf⟩
   unfold jg at h
   split at h
   all_goals try (cases h;done)
   all_goals try (cases h;simp only [VR];done)
   ·simp only [Option.map_eq_some_iff] at h;obtain ⟨y,h1,rfl⟩:=h;simp only [VR];exact ⟨_,rfl,ih _ _ h1⟩
   ·simp only [Option.map_eq_some_iff] at h;obtain ⟨y,h1,rfl⟩:=h;simp only [VR];exact ⟨_,rfl,lst _ _ h1⟩
   ·simp only [Option.map_eq_some_iff] at h;obtain ⟨y,h1,rfl⟩:=h;simp only [VR];exact ⟨_,rfl,lst _ _ h1⟩
theorem uU {α:Type} {P:Program} {s:Sem α} {a:α} (h:lS P s=some a) (w:World):s.run P w=.ok a w:=by
 induction s with
 | pure x=>simp [lS] at h;subst h;rfl
 | program k ih=>exact ih P h
 | mark m k ih=>exact ih h
 | _=>simp [lS] at h
omit [aC] in
theorem Tr.aa3 {α:Type}:∀p:List Bool,(Tr.nil:Tr α).sK p=none
 | []=>rfl
 | b::p=>by
   show Tr.sK p (bif b then Tr.nil else Tr.nil)=none
   cases b<;>exact Tr.aa3 p
omit [aC] in
@[simp] theorem Tr.get_nil {α:Type} (m:Nat):(Tr.nil:Tr α).get m=none:=Tr.aa3 _
omit [aC] in
theorem Tr.O1 {α:Type} (x:Option α):∀ (p q:List Bool) (t:Tr α),(t.Ba x p).sK q=if q=p then x else t.sK q
 | [],[],t=>rfl
 | [],c::q,t=>by
   rw [if_neg (by simp)]
   rfl
 | b::p,[],t=>by
   rw [if_neg (by simp)]
   cases b<;>rfl
 | b::p,c::q,t=>by
   have h1:(t.Ba x (b::p))=bif b then .nd t.val (t.wK.Ba x p) t.xk else .nd t.val t.wK (t.xk.Ba x p):=rfl
   have h2:∀u:Tr α,u.sK (c::q)=(bif c then u.wK else u.xk).sK q:=fun _=>rfl
   rw [h1,h2,h2]
   cases b<;>cases c
   ·show (t.xk.Ba x p).sK q=_
    rw [Tr.O1 x p q]
    simp
   ·show t.wK.sK q=_
    simp
   ·show t.xk.sK q=_
    simp
   ·show (t.wK.Ba x p).sK q=_
    rw [Tr.O1 x p q]
    simp
def MW:List Bool→Nat
 | []=>0
 | b::p=>2 * MW p+(if b then 1 else 2)
omit [aC] in
theorem aeK:∀ (f n:Nat),n < 2 ^ f→MW (FT f n)=n
 | 0,n,h=>by
   have:n=0:=by simpa using h
   subst this;rfl
 | f+1,n,h=>by
   have h1:FT (f+1) n=bif Nat.beq n 0 then [] else Nat.beq ((n - 1) % 2) 0::FT f ((n - 1) / 2):=rfl
   rw [h1]
   by_cases h0:n=0
   ·subst h0;rfl
   ·have hb:Nat.beq n 0=false:=by cases n with | zero=>exact absurd rfl h0 | succ n=>rfl
    rw [hb]
    show 2 * MW (FT f ((n - 1) / 2))+_=n
    have hp:2 ^ (f+1)=2 * 2 ^ f:=by rw [Nat.pow_succ,Nat.mul_comm]
    rw [aeK f _ (by omega)]
    rcases Nat.mod_two_eq_zero_or_one (n - 1) with h2 | h2
    ·rw [h2];show 2 * ((n - 1) / 2)+1=n;omega
    ·rw [h2];show 2 * ((n - 1) / 2)+2=n;omega
omit [aC] in
theorem aeJ (n:Nat):MW (path n)=n:=aeK _ _ Nat.lt_log2_self
omit [aC] in
theorem ali {n m:Nat}:path n=path m↔n=m:=⟨fun h=>by rw [← aeJ n,h,aeJ],fun h=>by rw [h]⟩
omit [aC] in
theorem Tr.qg {α:Type} (t:Tr α) (n m:Nat) (x:Option α):(t.set n x).get m=if m=n then x else t.get m:=by
 unfold Tr.get Tr.set
 rw [Tr.O1]
 by_cases h:m=n
 ·subst h;simp
 ·rw [if_neg h,if_neg (fun e=>h (ali.1 e))]
omit [aC] in
theorem ah.get_put (σ:ah) (id id':Nat) (o:aZ):(σ.put id o).get id'=if id'=id then some o else σ.get id':=Tr.qg _ _ _ _
omit [aC] in
theorem ah.rF (σ:ah) (id id':Nat):(σ.kill id).get id'=if id'=id then none else σ.get id':=Tr.qg _ _ _ _
omit [aC] in
theorem ah.nJ (σ:ah) (id':Nat) (o:aZ):(σ.new o).get id'=if id'=σ.next then some o else σ.get id':=Tr.qg _ _ _ _
def aZ.own:aZ→Bool
 | .cells _ _ rw _=>rw
 | _=>true
structure ng (P:Program) (η:Env) (q:Place) (c:List AV) (et:TypeId) (rw opn:Bool) (cs:Array Value) (elem:TypeId) (fr:Nat×Nat):Prop where
 fits:q.ba+q.sz≤cs.size
 le:c.length≤q.sz
 shut:opn=false→c.length=q.sz
 cell:∀ (k:Nat) a,c[k]? = some a→∃x,cs[q.ba+k]? = some x∧VR η a x
 free:rw=true→∀k,k < q.sz→¬ (fr.1≤q.ba+k∧q.ba+k < fr.2)
 whole:et≠0→elem=et∧q.ba+q.sz=cs.size∧(opn=false→q.ba=0)
 room:opn=true→et≠0∧0 < q.es∧sizeT P et=some q.es
def sV (kk:Option IntKind) (a:GV):Prop:=match kk with
 | some k=>∃n,a=.i k n
 | none=>∃s,a=.s s
def DV (sz:Option Nat) (b:GV):Prop:=match sz with
 | none=>b.scalar=true
 | some n=>∃cs,b=.g cs∧cs.length=n∧cs.all GV.scalar=true
def ny (ro:Nat→Option Obj) (kk:Option IntKind) (sz:Option Nat):List GV→List MapEntry→Prop
 | [],ms=>ms=[]
 | x::xs,ms=>∃a b m rest,x=.g [a,b]∧ms=m::rest∧sV kk a∧DV sz b∧GR ro a m.key∧GR ro b m.val∧ny ro kk sz xs rest
theorem ny.mono {ro ro':Nat→Option Obj} (h:∀b o,ro b=some o→ro' b=some o) {kk:Option IntKind} {sz:Option Nat}:∀ {xs:List GV} {ms:List MapEntry},ny ro kk sz xs ms→ny ro' kk sz xs ms
 | [],ms,r=>r
 | x::xs,ms,r=>by
   obtain ⟨a,b,m,rest,e1,e2,h1,h2,h3,h4,h5⟩:=r
   exact ⟨a,b,m,rest,e1,e2,h1,h2,GR.mono h _ _ h3,GR.mono h _ _ h4,ny.mono h h5⟩
def OR (P:Program) (η:Env) (q:Place) (w:World):aZ→Prop
 | .cells c et rw opn=>∃cs elem fr,w.heap[q.bl]? = some (.cells cs elem fr)∧ng P η q c et rw opn cs elem fr
 | .iter s pos=>w.heap[q.bl]? = some (.stringIter ⟨⟨s⟩⟩ pos)∧q.ba=0
 | .map es=>∃ms clock,w.heap[q.bl]? = some (.map ms clock)∧ms.size=es.length∧∀ (k:Nat) e,es[k]? = some e→∃m,ms[k]? = some m∧VR η e.1 m.key∧VR η e.2 m.val
 | .vec n et f=>∃xs cs elem fr ys,aC.val n=some (.l xs)∧w.heap[q.bl]? = some (.cells cs elem fr)∧aS η.ro xs ys∧(∀y∈ys,y.cells.size=q.es)∧xU cs q.ba (cu ys)∧xs.length * q.es≤q.sz∧ng P η q [] et true true cs elem fr∧(∀x∈xs,x.cells.all GV.scalar=true)∧(f=true→q.es≤q.sz)
 | .smap n kk sz=>∃xs ms clock,aC.val n=some (.l xs)∧w.heap[q.bl]? = some (.map ms clock)∧ny η.ro kk sz xs ms.toList
 | .iterM none=>q.ba=0∧∃since last,w.heap[q.bl]? = some (.mapIter none since #[] last)
 | .iterM (some m)=>q.ba=0∧∃since last q',η m=some q'∧w.heap[q.bl]? = some (.mapIter (some q'.bl) since #[] last)
theorem ng.mono {P:Program} {η η':Env} (h:η.le η') {q:Place} {c:List AV} {et:TypeId} {rw opn:Bool} {cs:Array Value} {elem:TypeId} {fr:Nat×Nat}
 (r:ng P η q c et rw opn cs elem fr):ng P η' q c et rw opn cs elem fr:=
 { r with cell:=fun k a hk=>by obtain ⟨x,hx,hv⟩:=r.cell k a hk;exact ⟨x,hx,VR.mono h _ _ hv⟩ }
theorem OR.mono {P:Program} {η η':Env} (h:η.le η') {q:Place} {w:World} {o:aZ} (r:OR P η q w o):OR P η' q w o:=by
 cases o with
 | cells c et rw opn=>obtain ⟨cs,elem,fr,h1,h2⟩:=r;exact ⟨cs,elem,fr,h1,h2.mono h⟩
 | iter s pos=>exact r
 | map es=>
   obtain ⟨ms,clock,h1,h2,h3⟩:=r
   refine ⟨ms,clock,h1,h2,fun k e hk=>?_⟩
   obtain ⟨m,hm,ha,hb⟩:=h3 k e hk
   exact ⟨m,hm,VR.mono h _ _ ha,VR.mono h _ _ hb⟩
 | iterM m=>
   cases m with
   | none=>exact r
   | some m=>
     obtain ⟨h0,since,last,q',h1,h2⟩:=r
     exact ⟨h0,since,last,q',h.pl _ _ h1,h2⟩
 | smap n kk sz=>
   obtain ⟨xs,ms,clock,h1,h2,h3⟩:=r
   exact ⟨xs,ms,clock,h1,h2,h3.mono h.ro⟩
 | vec n et f=>
   obtain ⟨xs,cs,elem,fr,ys,h1,h2,h3,h4,h5,h6,h7,h8⟩:=r
   exact ⟨xs,cs,elem,fr,ys,h1,h2,aS.mono h.ro _ _ h3,h4,h5,h6,h7.mono h,h8⟩
theorem OR.heap {P:Program} {η:Env} {q:Place} {w w':World} {o:aZ} (h:w'.heap[q.bl]? = w.heap[q.bl]?) (r:OR P η q w o):OR P η q w' o:=by
 cases o with
 | iterM m=>cases m<;>simp only [OR] at r ⊢<;>rw [h]<;>exact r
 | _=>simp only [OR] at r ⊢;rw [h];exact r
def xH (η:Env) (g:Nat) (c:List AV):Prop:=∃cs elem fr,η.ro g=some (.cells cs elem fr)∧c.length≤cs.size∧∀ (k:Nat) a,c[k]? = some a→∃x,cs[k]? = some x∧a.toVal 4=some x
theorem xH.mono {η η':Env} {g:Nat} {c:List AV} (h:xH η g c) (hle:η.le η'):xH η' g c:=by
 obtain ⟨cs,elem,fr,h1,h2⟩:=h
 exact ⟨cs,elem,fr,hle.ro _ _ h1,h2⟩
def Live (P:Program) (η:Env) (w:World) (id:Nat) (o:aZ):Prop:=(∃q,η id=some q∧OR P η q w o)∨(η.gh id=true∧∃n et f,o=.vec n et f∧aC.val n=some (.l []))
theorem Live.mono {P:Program} {η η':Env} (h:η.le η') {w:World} {id:Nat} {o:aZ} (r:Live P η w id o):Live P η' w id o:=by
 rcases r with ⟨q,hq,hr⟩ | ⟨hg,h2⟩
 ·exact .inl ⟨q,h.pl _ _ hq,hr.mono h⟩
 ·exact .inr ⟨h.gh _ hg,h2⟩
theorem Live.heap {P:Program} {η:Env} {w w':World} {id:Nat} {o:aZ} (r:Live P η w id o) (h:∀q,η id=some q→OR P η q w o→w'.heap[q.bl]? = w.heap[q.bl]?):Live P η w' id o:=by
 rcases r with ⟨q,hq,hr⟩ | h2
 ·exact .inl ⟨q,hq,OR.heap (h q hq hr) hr⟩
 ·exact .inr h2
structure SR (P:Program) (η:Env) (σ:ah) (w:World):Prop where
 jr:∀g,g≤P.globals.size→∃sz es,η g=some ⟨g,0,sz,es⟩
 dom:∀id q,η id=some q→id < σ.next
 live:∀id o,σ.get id=some o→Live P η w id o
 gW:∀id,η.gh id=true→η id=none∧id < σ.next
 sep:∀id o id' o' q q',σ.get id=some o→o.own=true→σ.get id'=some o'→id≠id'→η id=some q→η id'=some q'→q.bl≠q'.bl
 fP:∀b o,η.ro b=some o→w.heap[b]? = some o
 iW:∀id o q,σ.get id=some o→o.own=true→η id=some q→η.ro q.bl=none
 tabs:∀p∈aC.tabs,xH η p.1 p.2
def aZ.ajy:aZ→Bool
 | .vec _ _ _=>true
 | _=>false
theorem SR.obj {P:Program} {η:Env} {σ:ah} {w:World} (h:SR P η σ w):∀id o,σ.get id=some o→o.ajy=false→∃q,η id=some q∧OR P η q w o:=by
 intro id o ho hv
 rcases h.live id o ho with h1 | ⟨_,n,et,f,rfl,_⟩
 ·exact h1
 ·cases hv
theorem SR.at {P:Program} {η:Env} {σ:ah} {w:World} (h:SR P η σ w) {id:Nat} {o:aZ} {q:Place} (ho:σ.get id=some o) (hq:η id=some q):OR P η q w o:=by
 rcases h.live id o ho with ⟨q',hq',hr⟩ | ⟨hg,_⟩
 ·rw [hq] at hq';cases hq';exact hr
 ·rw [(h.gW id hg).1] at hq;cases hq
structure St (P:Program) (η:Env) (σ:ah) (w:World) (η':Env) (σ':ah) (w':World):Prop where
 ext:η.le η'
 rel:SR P η' σ' w'
 size:w.heap.size≤w'.heap.size
 keep:∀bl,bl < w.heap.size→(∀id o q,σ.get id=some o→o.own=true→σ.lock≤id→η id=some q→q.bl≠bl)→w'.heap[bl]? = w.heap[bl]?
 own:∀id o q,σ'.get id=some o→o.own=true→σ.lock≤id→η' id=some q→w.heap.size≤q.bl∨∃bW o0 q0,σ.get bW=some o0∧o0.own=true∧σ.lock≤bW∧η bW=some q0∧q0.bl=q.bl
 os:w'.os=w.os
 tape:w'.tape=w.tape
 output:w'.output=w.output
 lock:σ'.lock=σ.lock
 next:σ.next≤σ'.next
 new:∀id,η'.has id→η.has id∨(σ.next≤id∧id < σ'.next)
 lU:∀b,η'.ro b≠none→η.ro b≠none∨w.heap.size≤b∨∃bW o0 q0,σ.get bW=some o0∧o0.own=true∧σ.lock≤bW∧η bW=some q0∧q0.bl=b
theorem St.refl {P:Program} {η:Env} {σ:ah} {w:World} (h:SR P η σ w):St P η σ w η σ w:=
 ⟨Env.le.refl _,h,Nat.le_refl _,fun _ _ _=>rfl,fun id o q h1 h2 h3 h4=>.inr ⟨id,o,q,h1,h2,h3,h4,rfl⟩,rfl,rfl,rfl,rfl,Nat.le_refl _,fun _ h=>.inl h,fun _ h=>.inl h⟩
theorem St.trans {P:Program} {η η1 η2:Env} {σ σ1 σ2:ah} {w w1 w2:World} (h:St P η σ w η1 σ1 w1) (k:St P η1 σ1 w1 η2 σ2 w2):St P η σ w η2 σ2 w2:=by
 refine ⟨h.ext.trans k.ext,k.rel,Nat.le_trans h.size k.size, ?_, ?_,k.os.trans h.os,k.tape.trans h.tape,k.output.trans h.output,k.lock.trans h.lock,Nat.le_trans h.next k.next, ?_, ?_⟩
 rotate_right
 ·intro b hb
  rcases k.lU b hb with h1 | h1 | ⟨bW,o0,q0,a1,b1,c1,d1,e1⟩
  ·exact h.lU b h1
  ·exact .inr (.inl (Nat.le_trans h.size h1))
  ·rcases h.own bW o0 q0 a1 b1 (h.lock ▸ c1) d1 with h2 | ⟨id2,o2,q2,a2,b2,c2,d2,e2⟩
   ·right;left;omega
   ·exact .inr (.inr ⟨id2,o2,q2,a2,b2,c2,d2,e2.trans e1⟩)
 rotate_right
 ·intro id hq
  rcases k.new id hq with h1 | ⟨h1,h2⟩
  ·rcases h.new id h1 with h3 | ⟨h3,h4⟩
   ·exact .inl h3
   ·exact .inr ⟨h3,Nat.lt_of_lt_of_le h4 k.next⟩
  ·exact .inr ⟨Nat.le_trans h.next h1,h2⟩
 ·intro bl hbl hno
  rw [k.keep bl (Nat.lt_of_lt_of_le hbl h.size) ?_,h.keep bl hbl hno]
  intro id o q h1 h2 h3 h4
  rcases h.own id o q h1 h2 (h.lock ▸ h3) h4 with h5 | ⟨bW,o0,q0,a,b,c,d,e⟩
  ·omega
  ·rw [← e];exact hno bW o0 q0 a b c d
 ·intro id o q h1 h2 h3 h4
  rcases k.own id o q h1 h2 (by rw [h.lock];exact h3) h4 with h5 | ⟨bW,o0,q0,a,b,c,d,e⟩
  ·exact .inl (Nat.le_trans h.size h5)
  ·rcases h.own bW o0 q0 a b (h.lock ▸ c) d with h6 | ⟨id1,o1,q1,a1,b1,c1,d1,e1⟩
   ·left;omega
   ·exact .inr ⟨id1,o1,q1,a1,b1,c1,d1,e1.trans e⟩
theorem SR.hasLt {P:Program} {η:Env} {σ:ah} {w:World} (h:SR P η σ w) {id:Nat} (hh:η.has id):id < σ.next:=hh.elim (fun ⟨q,hq⟩=>h.dom id q hq) fun hg=>(h.gW id hg).2
theorem SR.E5 {P:Program} {η:Env} {σ:ah} {w:World} (h:SR P η σ w) {id:Nat} {o:aZ} (ho:σ.get id=some o):η.has id:=(h.live id o ho).elim (fun ⟨q,hq,_⟩=>.inl ⟨q,hq⟩) fun ⟨hg,_⟩=>.inr hg
theorem St.akO {P:Program} {η η':Env} {σ σ':ah} {w w':World} (h:St P η σ w η' σ' w') {id:Nat} {q:Place} (hq:η' id=some q):η id=some q∨(σ.next≤id∧id < σ'.next):=by
 rcases h.new id (.inl ⟨q,hq⟩) with (⟨p,hp⟩ | hg) | hn
 ·have:=h.ext.pl _ _ hp
  rw [hq] at this;cases this
  exact .inl hp
 ·have:=(h.rel.gW id (h.ext.gh _ hg)).1
  rw [hq] at this;cases this
 ·exact .inr hn
theorem SR.drew {P:Program} {η:Env} {σ:ah} {w:World} (h:SR P η σ w):SR P η σ { w with drawn:=w.drawn+1 }:=
 ⟨h.jr,h.dom,fun id o ho=>(h.live id o ho).heap (w:=w) (fun _ _ _=>rfl),h.gW,h.sep,h.fP,h.iW,h.tabs⟩
theorem St.drew {P:Program} {η:Env} {σ:ah} {w:World} (h:SR P η σ w):St P η σ w η σ { w with drawn:=w.drawn+1 }:=
 ⟨Env.le.refl _,h.drew,Nat.le_refl _,fun _ _ _=>rfl,fun id o q h1 h2 h3 h4=>.inr ⟨id,o,q,h1,h2,h3,h4,rfl⟩,rfl,rfl,rfl,rfl,Nat.le_refl _,fun _ h=>.inl h,fun _ h=>.inl h⟩
end
end Go.aP
namespace Go.aP
noncomputable section
variable [aC]
set_option linter.unusedSectionVars false
set_option linter.unusedVariables false
set_option linter.unusedSimpArgs false
theorem lW (bl off n:Nat):(⟨bl,off,none⟩:Addr).add n=⟨bl,off+n,none⟩:=by
 unfold Addr.add;split
 ·next h=>simp [h]
 ·rfl
theorem Ez {w:World} {bl off:Nat} {cs:Array Value} {elem:TypeId} {fr:Nat×Nat} (h:w.heap[bl]? = some (.cells cs elem fr)) :
 w.cell? ⟨bl,off,none⟩=cs[off]?:=by
 simp [World.cell?,h]
theorem aaX {w:World} {bl off:Nat} {cs:Array Value} {elem:TypeId} {fr:Nat×Nat} (h:w.heap[bl]? = some (.cells cs elem fr)) :
 w.frozen? ⟨bl,off,none⟩=(decide (fr.1≤off)&&decide (off < fr.2)):=by
 simp [World.frozen?,h]
theorem run_loadCellsFrom {P:Program} {w:World} {bl off:Nat} {cs:Array Value} {elem:TypeId} {fr:Nat×Nat} (h:w.heap[bl]? = some (.cells cs elem fr)) :
 ∀ (n i:Nat) (acc:Array Value),off+i+n≤cs.size→
   (loadCellsFrom ⟨bl,off,none⟩ i n acc).run P w=.ok (acc++(cs.toList.drop (off+i)).take n) w:=by
 intro n
 induction n with
 | zero=>intro i acc _;simp [loadCellsFrom]
 | succ n ih=>
   intro i acc hle
   have hlt:off+i < cs.size:=by omega
   have hc:w.cell? ⟨bl,off+i,none⟩=some cs[off+i]:=by rw [Ez h];simp [hlt]
   simp only [loadCellsFrom,Sem.run_bind,lW]
   have hl:(load ⟨bl,off+i,none⟩).run P w=.ok cs[off+i] w:=by simp [load,Sem.run,hc]
   rw [hl]
   simp only [Result.andThen_ok]
   rw [ih (i+1) _ (by omega)]
   congr 1
   have:cs.toList.drop (off+i)=cs[off+i]::cs.toList.drop (off+(i+1)):=by
    rw [List.drop_eq_getElem_cons (by simpa using hlt)];simp [Nat.add_assoc]
   rw [this];simp
theorem run_loadCells {P:Program} {w:World} {bl off n:Nat} {cs:Array Value} {elem:TypeId} {fr:Nat×Nat} (h:w.heap[bl]? = some (.cells cs elem fr)) (hle:off+n≤cs.size) :
 (loadCells ⟨bl,off,none⟩ n).run P w=.ok ⟨(cs.toList.drop off).take n⟩ w:=by
 unfold loadCells
 rw [run_loadCellsFrom h n 0 #[] (by simpa using hle)]
 simp
theorem adA {P:Program} {w:World} {bl off:Nat} {cs:Array Value} {elem:TypeId} {fr:Nat×Nat} {x:Value} (h:w.heap[bl]? = some (.cells cs elem fr)) (hx:cs[off]? = some x) :
 (load ⟨bl,off,none⟩).run P w=.ok x w:=by
 have hc:w.cell? ⟨bl,off,none⟩=some x:=by rw [Ez h,hx]
 simp [load,Sem.run,hc]
def setFrom (cs:Array Value) (off:Nat):List Value→Array Value
 | []=>cs
 | v::vs=>setFrom (cs.setIfInBounds off v) (off+1) vs
theorem DJ:∀ (vs:List Value) (cs:Array Value) (off:Nat),(setFrom cs off vs).size=cs.size
 | [],_,_=>rfl
 | v::vs,cs,off=>by rw [setFrom,DJ vs];simp
theorem LU:∀ (vs:List Value) (cs:Array Value) (off k:Nat),off+vs.length≤cs.size→
 (setFrom cs off vs)[k]? = if off≤k∧k < off+vs.length then vs[k - off]? else cs[k]?
 | [],cs,off,k,h=>by simp [setFrom];omega
 | v::vs,cs,off,k,h=>by
   simp only [List.length_cons] at h
   rw [setFrom,LU vs _ _ _ (by simp;omega)]
   by_cases h1:off+1≤k∧k < off+1+vs.length
   ·rw [if_pos h1,if_pos ⟨by omega,by simp;omega⟩]
    have:k - off=(k - (off+1))+1:=by omega
    rw [this];simp
   ·rw [if_neg h1]
    by_cases h2:k=off
    ·subst h2
     rw [if_pos ⟨Nat.le_refl _,by simp⟩]
     have hk:k < cs.size:=by omega
     simp [hk]
    ·rw [if_neg (by simp only [List.length_cons];omega)]
     rw [Array.getElem?_setIfInBounds,if_neg (fun e=>h2 e.symm)]
def jE (w:World) (bl:Nat) (o:Obj):World:={ w with heap:=w.heap.setIfInBounds bl o }
theorem uY {w:World} {bl:Nat} {o o':Obj} (h:w.heap[bl]? = some o):(jE w bl o').heap[bl]? = some o':=by
 have:bl < w.heap.size:=(Array.getElem?_eq_some_iff.1 h).1
 simp [jE,this]
theorem xu {w:World} {bl k:Nat} {o':Obj} (h:k≠bl):(jE w bl o').heap[k]? = w.heap[k]?:=by
 simp only [jE];rw [Array.getElem?_setIfInBounds,if_neg (fun e=>h e.symm)]
theorem xw {w:World} {bl:Nat} {o':Obj}:(jE w bl o').heap.size=w.heap.size:=by simp [jE]
theorem anu {w:World} {bl:Nat} {o o':Obj}:jE (jE w bl o) bl o'=jE w bl o':=by
 simp only [jE];congr 1
 apply Array.ext_getElem?;intro i
 simp only [Array.getElem?_setIfInBounds,Array.size_setIfInBounds]
 split<;>rfl
theorem setCell_eq {w:World} {bl off:Nat} {cs:Array Value} {elem:TypeId} {fr:Nat×Nat} (h:w.heap[bl]? = some (.cells cs elem fr)) (v:Value) :
 w.setCell ⟨bl,off,none⟩ v=jE w bl (.cells (cs.setIfInBounds off v) elem fr):=by
 unfold World.setCell jE
 congr 1
 apply Array.ext_getElem?;intro i
 rw [Array.getElem?_modify,Array.getElem?_setIfInBounds]
 by_cases e:bl=i
 ·subst e
  have:bl < w.heap.size:=(Array.getElem?_eq_some_iff.1 h).1
  rw [if_pos rfl,if_pos rfl,if_pos this,h];rfl
 ·rw [if_neg e,if_neg e]
theorem ant {w:World} {bl:Nat} {o:Obj} (h:w.heap[bl]? = some o):jE w bl o=w:=by
 unfold jE
 have:w.heap.setIfInBounds bl o=w.heap:=by
  apply Array.ext_getElem?;intro i
  rw [Array.getElem?_setIfInBounds]
  by_cases e:bl=i
  ·subst e
   have:bl < w.heap.size:=(Array.getElem?_eq_some_iff.1 h).1
   rw [if_pos rfl,if_pos this,h]
  ·rw [if_neg e]
 rw [this]
def mW:Value→Bool
 | .agg _ | .tuple _=>false
 | _=>true
theorem SA {P:Program}:∀ (vs:List Value) (w:World) (bl off i:Nat) (cs:Array Value) (elem:TypeId) (fr:Nat×Nat),
 w.heap[bl]? = some (.cells cs elem fr)→off+i+vs.length≤cs.size→(∀v∈vs,mW v=true)→
 (∀k,off+i≤k→k < off+i+vs.length→¬ (fr.1≤k∧k < fr.2))→
 (storeCells ⟨bl,off,none⟩ vs i).run P w=.ok () (jE w bl (.cells (setFrom cs (off+i) vs) elem fr))
 | [],w,bl,off,i,cs,elem,fr,h,_,_,_=>by simp [storeCells,setFrom,ant h]
 | v::vs,w,bl,off,i,cs,elem,fr,h,hle,hone,hfr=>by
   simp only [List.length_cons] at hle hfr
   have hlt:off+i < cs.size:=by omega
   have hc:w.cell? ⟨bl,off+i,none⟩=some cs[off+i]:=by rw [Ez h];simp [hlt]
   have hf:w.frozen? ⟨bl,off+i,none⟩=false:=by
    rw [aaX h];have:=hfr (off+i) (by omega) (by omega);simpa using this
   have hv:=hone v (by simp)
   have hs:(store ⟨bl,off+i,none⟩ v).run P w=.ok () (jE w bl (.cells (cs.setIfInBounds (off+i) v) elem fr)):=by
    rw [← setCell_eq h]
    cases v<;>simp [mW] at hv<;>simp [store,Sem.run,hc,hf]
   simp only [storeCells,Sem.run_bind,lW,hs,Result.andThen_ok]
   rw [SA vs _ bl off (i+1) (cs.setIfInBounds (off+i) v) elem fr (uY h) (by simp;omega) (fun x hx=>hone x (by simp [hx])) (fun k h1 h2=>hfr k (by omega) (by omega))]
   rw [anu]
   rfl
def Env.put (η:Env) (id:Nat) (q:Place):Env:=⟨fun k=>if k=id then some q else η k,η.ro,η.gh⟩
theorem Env.AQ {P:Program} {η:Env} {σ:ah} {w:World} (h:SR P η σ w) (q:Place):η.le (η.put σ.next q):=by
 refine ⟨fun id p hp=>?_,fun _ _ h=>h,fun _ h=>h⟩
 have:=h.dom id p hp
 simp only [Env.put];rw [if_neg (by omega)];exact hp
theorem qJ {w:World} {k:Nat} {o:Obj} (h:w.heap[k]? = some o):k < w.heap.size:=(Array.getElem?_eq_some_iff.1 h).1
theorem OR.lt {P:Program} {η:Env} {q:Place} {w:World} {o:aZ} (h:OR P η q w o):q.bl < w.heap.size:=by
 cases o with
 | cells c et rw opn=>obtain ⟨cs,elem,fr,h1,_⟩:=h;exact qJ h1
 | iter s pos=>exact qJ h.1
 | map es=>obtain ⟨ms,clock,h1,_⟩:=h;exact qJ h1
 | iterM m=>cases m with
   | none=>obtain ⟨_,_,_,h1⟩:=h;exact qJ h1
   | some m=>obtain ⟨_,_,_,_,_,h1⟩:=h;exact qJ h1
 | vec n et f=>obtain ⟨_,_,_,_,_,_,h1,_⟩:=h;exact qJ h1
 | smap n kk sz=>obtain ⟨_,_,_,_,h1,_⟩:=h;exact qJ h1
theorem Env.ac4 {P:Program} {η:Env} {σ:ah} {w:World} (h:SR P η σ w) (q:Place) {n:Nat} (hn:σ.next < n):∀id,(η.put σ.next q).gh id=true→(η.put σ.next q) id=none∧id < n:=by
 intro id hid
 obtain ⟨h1,h2⟩:=h.gW id hid
 refine ⟨?_,by omega⟩
 simp only [Env.put];rw [if_neg (by omega)];exact h1
theorem St.alloc {P:Program} {η:Env} {σ:ah} {w:World} (h:SR P η σ w) (o:aZ) (oc:Obj) (q:Place) (hq:q.bl=w.heap.size)
 (ho:OR P (η.put σ.next q) q { w with heap:=w.heap.push oc } o):St P η σ w (η.put σ.next q) (σ.new o) { w with heap:=w.heap.push oc }:=by
 have hle:=Env.AQ h q
 have hat:∀k,k < w.heap.size→(w.heap.push oc)[k]? = w.heap[k]?:=fun k hk=>by rw [Array.getElem?_push,if_neg (by omega)]
 have abl:∀b o,η.ro b=some o→b < w.heap.size:=fun b o hb=>qJ (h.fP b o hb)
 refine ⟨hle,⟨?_, ?_, ?_,Env.ac4 h q (Nat.lt_succ_self _), ?_,fun b o hb=>?_,fun id o1 p a1 a2 a3=>?_,fun p hp=>(h.tabs p hp).mono hle⟩,by simp,fun bl hbl _=>hat bl hbl, ?_,rfl,rfl,rfl,rfl,Nat.le_succ _, ?_,fun _ h=>.inl h⟩
 rotate_right
 ·rintro id (⟨p,hp⟩ | hg)
  ·simp only [Env.put] at hp
   split at hp
   ·next e=>subst e;exact .inr ⟨Nat.le_refl _,Nat.lt_succ_self _⟩
   ·exact .inl (.inl ⟨p,hp⟩)
  ·exact .inl (.inr hg)
 ·intro g hg;obtain ⟨sz,es,h1⟩:=h.jr g hg;exact ⟨sz,es,hle.pl _ _ h1⟩
 ·intro id p hp
  simp only [Env.put] at hp
  show id < σ.next+1
  split at hp
  ·omega
  ·have:=h.dom id p hp;omega
 ·intro id o' ho'
  rw [ah.nJ] at ho'
  split at ho'
  ·next e=>cases ho';subst e;exact .inl ⟨q,by simp [Env.put],ho⟩
  ·exact ((h.live id o' ho').heap (w:=w) (fun p _ hr=>hat _ hr.lt)).mono hle
 ·intro id o1 id' o2 p p' h1 h2 h3 h4 h5 h6
  rw [ah.nJ] at h1 h3
  simp only [Env.put] at h5 h6
  split at h1<;>split at h3
  ·omega
  ·next e e'=>
   rw [if_pos e] at h5;rw [if_neg e'] at h6;cases h5
   have:=(h.at h3 h6).lt;omega
  ·next e e'=>
   rw [if_neg e] at h5;rw [if_pos e'] at h6;cases h6
   have:=(h.at h1 h5).lt;omega
  ·next e e'=>
   rw [if_neg e] at h5;rw [if_neg e'] at h6
   exact h.sep id o1 id' o2 p p' h1 h2 h3 h4 h5 h6
 ·exact (hat b (abl b o hb)).trans (h.fP b o hb)
 ·rw [ah.nJ] at a1
  simp only [Env.put] at a3 ⊢
  split at a1
  ·next e=>
   rw [if_pos e] at a3;cases a3
   cases hro:η.ro q.bl with
   | none=>rfl
   | some o2=>have:=abl _ _ hro;omega
  ·next e=>rw [if_neg e] at a3;exact h.iW id o1 p a1 a2 a3
 ·intro id o1 p h1 h2 h3 h4
  rw [ah.nJ] at h1
  simp only [Env.put] at h4
  split at h1
  ·next e=>rw [if_pos e] at h4;cases h4;left;omega
  ·next e=>rw [if_neg e] at h4;exact .inr ⟨id,o1,p,h1,h2,h3,h4,rfl⟩
theorem St.write {P:Program} {η:Env} {σ:ah} {w w':World} (h:SR P η σ w) {id:Nat} {o o':aZ} {q:Place} (hg:σ.get id=some o) (ho:o.own=true) (hl:σ.lock≤id)
 (hq:η id=some q) (hsz:w'.heap.size=w.heap.size) (hk:∀k,k≠q.bl→w'.heap[k]? = w.heap[k]?) (h1:w'.os=w.os) (h2:w'.tape=w.tape) (h3:w'.output=w.output)
 (hr:OR P η q w' o'):St P η σ w η (σ.put id o') w':=by
 have hro:=h.iW id o q hg ho hq
 refine ⟨Env.le.refl _,⟨h.jr,h.dom, ?_,h.gW, ?_,fun b o2 hb=>?_,fun id2 o2 p a1 a2 a3=>?_,h.tabs⟩,by omega, ?_, ?_,h1,h2,h3,rfl,Nat.le_refl _,fun _ h=>.inl h,fun _ h=>.inl h⟩
 ·intro id' o2 h4
  rw [ah.get_put] at h4
  split at h4
  ·next e=>cases h4;subst e;exact .inl ⟨q,hq,hr⟩
  ·next e=>exact (h.live id' o2 h4).heap (w:=w) fun p hp _=>hk _ (h.sep id o id' o2 q p hg ho h4 (fun e'=>e e'.symm) hq hp).symm
 ·intro id1 o1 id2 o2 p p' a b c d e f
  rw [ah.get_put] at a c
  split at a<;>split at c
  ·omega
  ·next e1 e2=>subst e1;exact h.sep id1 o id2 o2 p p' hg ho c d e f
  ·next e1 e2=>subst e2;exact h.sep id1 o1 id2 o p p' a b hg d e f
  ·exact h.sep id1 o1 id2 o2 p p' a b c d e f
 ·rw [hk b (fun e=>by rw [e] at hb;rw [hro] at hb;cases hb)];exact h.fP b o2 hb
 ·rw [ah.get_put] at a1
  split at a1
  ·next e=>subst e;rw [hq] at a3;cases a3;exact hro
  ·exact h.iW id2 o2 p a1 a2 a3
 ·intro bl hbl hno
  exact hk bl (hno id o q hg ho hl hq).symm
 ·intro id1 o1 p a b c d
  rw [ah.get_put] at a
  split at a
  ·next e=>subst e;exact .inr ⟨id1,o,p,hg,ho,hl,d,rfl⟩
  ·exact .inr ⟨id1,o1,p,a,b,c,d,rfl⟩
theorem St.again {P:Program} {η:Env} {σ:ah} {w w':World} (h:SR P η σ w) {id:Nat} {o o':aZ} {q q':Place} (hg:σ.get id=some o) (ho:o.own=true) (hl:σ.lock≤id)
 (hq:η id=some q) (hq':q'.bl=q.bl) (hsz:w'.heap.size=w.heap.size) (hk:∀k,k≠q.bl→w'.heap[k]? = w.heap[k]?) (h1:w'.os=w.os) (h2:w'.tape=w.tape) (h3:w'.output=w.output)
 (hr:OR P (η.put σ.next q') q' w' o'):St P η σ w (η.put σ.next q') ((σ.kill id).new o') w':=by
 have hle:=Env.AQ h q'
 have hid:id < σ.next:=h.dom id q hq
 have get:∀k,((σ.kill id).new o').get k=if k=σ.next then some o' else if k=id then none else σ.get k:=fun k=>by
  rw [ah.nJ,ah.rF];rfl
 have hro:=h.iW id o q hg ho hq
 refine ⟨hle,⟨?_, ?_, ?_,Env.ac4 h q' (Nat.lt_succ_self _), ?_,fun b o2 hb=>?_,fun id2 o2 p a1 a2 a3=>?_,fun p hp=>(h.tabs p hp).mono hle⟩,by omega, ?_, ?_,h1,h2,h3,rfl,Nat.le_succ _, ?_,fun _ h=>.inl h⟩
 rotate_right
 ·rintro id (⟨p,hp⟩ | hg)
  ·simp only [Env.put] at hp
   split at hp
   ·next e=>subst e;exact .inr ⟨Nat.le_refl _,Nat.lt_succ_self _⟩
   ·exact .inl (.inl ⟨p,hp⟩)
  ·exact .inl (.inr hg)
 ·intro g hg;obtain ⟨sz,es,h1⟩:=h.jr g hg;exact ⟨sz,es,hle.pl _ _ h1⟩
 ·intro k p hp
  simp only [Env.put] at hp
  show k < σ.next+1
  split at hp
  ·omega
  ·have:=h.dom k p hp;omega
 ·intro k o2 h4
  rw [get] at h4
  split at h4
  ·next e=>cases h4;subst e;exact .inl ⟨q',by simp [Env.put],hr⟩
  ·split at h4
   ·cases h4
   ·next e e2=>exact ((h.live k o2 h4).heap (w:=w) fun p hp _=>hk _ (h.sep id o k o2 q p hg ho h4 (fun e'=>e2 e'.symm) hq hp).symm).mono hle
 ·intro id1 o1 id2 o2 p p' a b c d e f
  rw [get] at a c
  simp only [Env.put] at e f
  split at a<;>split at c
  ·omega
  ·next e1 e2=>
   split at c
   ·cases c
   ·next e3=>
    rw [if_pos e1] at e;rw [if_neg e2] at f;cases e
    rw [hq']
    exact h.sep id o id2 o2 q p' hg ho c (fun e'=>e3 e'.symm) hq f
  ·next e1 e2=>
   split at a
   ·cases a
   ·next e3=>
    rw [if_neg e1] at e;rw [if_pos e2] at f;cases f
    rw [hq']
    exact h.sep id1 o1 id o p q a b hg e3 e hq
  ·next e1 e2=>
   split at a
   ·cases a
   ·split at c
    ·cases c
    ·rw [if_neg e1] at e;rw [if_neg e2] at f
     exact h.sep id1 o1 id2 o2 p p' a b c d e f
 ·rw [hk b (fun e=>by rw [e] at hb;have hb':η.ro q.bl=some o2:=hb;rw [hro] at hb';cases hb')];exact h.fP b o2 hb
 ·rw [get] at a1
  simp only [Env.put] at a3 ⊢
  split at a1
  ·next e=>rw [if_pos e] at a3;cases a3;rw [hq'];exact hro
  ·next e=>
   rw [if_neg e] at a3
   split at a1
   ·cases a1
   ·exact h.iW id2 o2 p a1 a2 a3
 ·intro bl hbl hno
  exact hk bl (hno id o q hg ho hl hq).symm
 ·intro id1 o1 p a b c d
  rw [get] at a
  simp only [Env.put] at d
  split at a
  ·next e=>rw [if_pos e] at d;cases d;exact .inr ⟨id,o,q,hg,ho,hl,hq,hq'.symm⟩
  ·next e=>
   rw [if_neg e] at d
   split at a
   ·cases a
   ·exact .inr ⟨id1,o1,p,a,b,c,d,rfl⟩
theorem SR.sub {P:Program} {η:Env} {σ τ:ah} {w:World} (h:SR P η σ w) (hs:∀id o,τ.get id=some o→σ.get id=some o) (hn:σ.next≤τ.next):SR P η τ w:=
 ⟨h.jr,fun id q hq=>Nat.lt_of_lt_of_le (h.dom id q hq) hn,fun id o ho=>h.live id o (hs id o ho),fun id hid=>⟨(h.gW id hid).1,Nat.lt_of_lt_of_le (h.gW id hid).2 hn⟩,
  fun id o id' o' q q' a b c d e f=>h.sep id o id' o' q q' (hs _ _ a) b (hs _ _ c) d e f,h.fP,fun id o q a b c=>h.iW id o q (hs _ _ a) b c,h.tabs⟩
theorem St.sub {P:Program} {η η':Env} {σ σ' τ:ah} {w w':World} (h:St P η σ w η' σ' w') (hs:∀id o,τ.get id=some o→σ'.get id=some o) (hn:σ'.next≤τ.next) (hl:τ.lock=σ'.lock):St P η σ w η' τ w':=
 { h with rel:=h.rel.sub hs hn,own:=fun id o q a b c d=>h.own id o q (hs _ _ a) b c d,lock:=hl.trans h.lock,next:=Nat.le_trans h.next hn,new:=fun id hq=>(h.new id hq).imp (fun x=>x) fun ⟨a,b⟩=>⟨a,Nat.lt_of_lt_of_le b hn⟩ }
end
end Go.aP
