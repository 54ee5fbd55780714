/- Ground values, and the nodes by which a symbolic run names them. -/
import Derived.Calls
import Derived.Below
import Derived.Orders
import Derived.LoopN
import Derived.KernelRfl
import Derived.Laws.Strings
import Derived.WalkKit
namespace Go.aN
set_option linter.unusedSimpArgs false
noncomputable section
abbrev ah:=@if_neg
abbrev aj:=@if_pos
abbrev aI:=@Bool.and_eq_true
abbrev aP:=@Result.andThen_ok
abbrev aQ:=@Sem.run_bind
abbrev aT:=@Option.some.injEq
abbrev aW:=@Option.map_eq_some_iff
abbrev aZ:=@Sem.run_pure
abbrev bn:=@Nat.eq_of_beq_eq_true
abbrev bP:=@List.getElem?_eq_getElem
abbrev bU:=@List.mem_cons
abbrev bV:=@List.nil_append
abbrev dD:=@Nat.le_refl
abbrev dH:=@List.length_append
abbrev dR:=@List.getElem?_eq_some_iff
abbrev dV:=@List.cons_append
abbrev dX:=@List.length_drop
abbrev eH:=@List.drop_zero
abbrev gG:=@Option.map_some
abbrev gU:=@Bool.false_eq_true
abbrev gY:=@List.drop_eq_nil_of_le
abbrev iq:=@List.getElem?_map
abbrev iF:=@Nat.le_trans
abbrev iL:=@List.getElem?_cons_zero
abbrev iQ:=@List.map_cons
abbrev iR:=@Nat.add_assoc
abbrev iY:=@List.length_cons
abbrev iZ:=@Nat.blt_eq
abbrev je:=@List.getElem_mem
abbrev jh:=@List.eq_nil_of_length_eq_zero
abbrev ji:=@List.flatMap_cons
abbrev jk:=@Nat.zero_add
abbrev jw:=@List.drop_eq_getElem_cons
abbrev jV:=@Prod.mk.injEq
abbrev kF:=@List.getElem?_take
abbrev kK:=@List.append_nil
abbrev kL:=@List.getElem?_append_left
abbrev kM:=@List.length_map
abbrev kV:=@List.mem_append
abbrev kX:=@List.mem_map
abbrev kY:=@Nat.add_zero
abbrev lJ:=@Bool.or_eq_true
abbrev lK:=@List.take_of_length_le
abbrev lX:=@List.length_take
abbrev lY:=@List.mem_filter
abbrev nP:=@Array.getElem?_eq_some_iff
abbrev nS:=@List.drop_drop
abbrev ou:=@Option.getD_some
abbrev oU:=@Bool.eq_iff_iff
abbrev oZ:=@List.drop_left
abbrev pq:=@List.getElem?_cons_succ
abbrev pz:=@List.getElem?_drop
abbrev pG:=@Nat.add_mul
abbrev pI:=@Nat.le_of_ble_eq_true
abbrev qw:=@List.mem_of_getElem?
abbrev qO:=@Int.natCast_zero
abbrev qP:=@List.all_cons
abbrev qQ:=@List.length_nil
abbrev qR:=@List.pairwise_cons
abbrev qV:=@Nat.mul_le_mul_right
abbrev qX:=@Sem.run_ite
abbrev rC:=@congrArg
abbrev rY:=@Array.getElem?_toList
abbrev su:=@List.getElem?_append_right
abbrev sD:=@List.map_append
abbrev uy:=@Bool.false_or
abbrev uz:=@Bool.not_eq_true'
abbrev uD:=@List.map_nil
abbrev uF:=@Nat.lt_of_lt_of_le
abbrev uG:=@Nat.zero_le
abbrev uH:=@Option.bind_eq_some_iff
abbrev uI:=@Option.getD_none
abbrev vk:=@Array.getD_eq_getD_getElem?
abbrev vC:=@List.getD_eq_getElem?_getD
abbrev vF:=@List.getElem?_eq_none
abbrev wG:=@BitVec.toNat_ofInt
abbrev wI:=@List.mem_cons_of_mem
abbrev wJ:=@List.mem_range
abbrev wK:=@List.take_succ_cons
abbrev xM:=@List.length_singleton
abbrev xO:=@List.take_length
abbrev xP:=@Nat.lt_or_ge
abbrev xQ:=@Nat.sub_self
abbrev yG:=@of_decide_eq_true
abbrev yZ:=@Array.getElem?_eq_getElem
abbrev y7:=@Array.getElem?_setIfInBounds
abbrev y8:=@Bool.or_false
abbrev zh:=@Iff.rfl
abbrev zi:=@List.take_add
abbrev zk:=@Option.bind_some
abbrev AA:=@Int.natCast_add
abbrev AB:=@List.getElem?_toArray
abbrev AL:=@List.mem_of_mem_drop
abbrev Bl:=@decide_eq_true
abbrev CU:=@List.filter_cons
abbrev CV:=@List.take_append_drop
abbrev CX:=@Nat.mul_comm
abbrev CY:=@Nat.one_mul
abbrev CZ:=@Nat.sub_zero
abbrev C9:=@Option.some.inj
abbrev DK:=@decide_eq_false
abbrev EX:=@Array.getElem?_modify
abbrev EY:=@Array.length_toList
abbrev E9:=@Int.le_refl
abbrev Fa:=@List.drop_take
abbrev Fb:=@List.ext_getElem?
abbrev Fe:=@List.mem_nil_iff
abbrev Fg:=@List.mem_of_mem_take
abbrev Fh:=@Nat.le_of_eq
abbrev Fj:=@Nat.pow_succ
abbrev Fp:=@Option.isNone_some
abbrev Fq:=@Prod.exists
abbrev Io:=@Array.ext'
abbrev Ip:=@Bool.true_and
abbrev Iw:=@List.drop_succ_cons
abbrev Iy:=@List.getElem?_of_mem
abbrev Iz:=@List.length_filter_le
abbrev IB:=@List.mem_singleton
abbrev IC:=@List.replicate_succ
abbrev IE:=@Nat.add_comm
abbrev IG:=@Nat.lt_succ_self
abbrev IJ:=@Nat.min_eq_left
abbrev IK:=@Nat.mul_pos
abbrev LX:=@Array.ext_getElem?
abbrev LY:=@Array.getElem?_push
abbrev LZ:=@Bool.and_true
abbrev L6:=@Bool.not_eq_false
abbrev L8:=@Int.fdiv_eq_ediv_of_nonneg
abbrev Mc:=@List.Perm.refl
abbrev Md:=@List.cons.injEq
abbrev Me:=@List.filter_sublist
abbrev MF:=@List.length_pos_iff
abbrev MG:=@List.take_append_of_le_length
abbrev MH:=@Nat.add_sub_cancel'
abbrev MJ:=@Nat.mod_eq_of_lt
abbrev MK:=@Nat.mul_le_mul_left
abbrev ML:=@Nat.pow_le_pow_right
abbrev MN:=@Nat.testBit_or
abbrev Rq:=@Array.getElem?_append_left
abbrev Rt:=@Array.mapM_eq_mapM_toList
abbrev Ru:=@Bool.not_true
abbrev Rw:=@Classical.em
abbrev Rx:=@List.drop_append_of_le_length
abbrev Ry:=@List.filter_append
abbrev Rz:=@List.filter_nil
abbrev RD:=@List.length_eq_one_iff
abbrev RF:=@List.lt_irrefl
abbrev RG:=@List.lt_trans
abbrev RH:=@List.mem_iff_getElem?
abbrev RI:=@List.take_add_one
abbrev RJ:=@List.take_left
abbrev RN:=@List.take_zero
abbrev RQ:=@Nat.add_sub_cancel_left
abbrev RS:=@Nat.eq_zero_or_pos
abbrev RU:=@Option.ne_none_iff_exists'
abbrev RV:=@Sem.run_map
abbrev Yj:=@Array.eq_empty_of_size_eq_zero
abbrev Yk:=@Array.map_empty
abbrev Yl:=@Array.size_range
abbrev Ym:=@BitVec.toNat_and
abbrev Yw:=@Int.zero_add
abbrev Yx:=@List.all_append
abbrev Yy:=@List.all_nil
abbrev Yz:=@List.contains_iff_mem
abbrev YA:=@List.drop_append
abbrev YB:=@List.flatMap_append
abbrev YC:=@List.getElem?_range
abbrev YD:=@List.head?_cons
abbrev YE:=@List.mapM_cons
abbrev YF:=@List.mem_flatMap
abbrev YG:=@List.mem_or_eq_of_mem_set
abbrev YH:=@List.mem_replicate
abbrev YI:=@List.mem_zipIdx_iff_getElem?
abbrev YJ:=@List.nodup_cons
abbrev YK:=@List.singleton_append
abbrev YL:=@List.take_take
abbrev YM:=@Nat.ble_eq_true_of_le
abbrev YN:=@Nat.mul_assoc
abbrev YO:=@Nat.mul_div_cancel
abbrev YR:=@Option.toList_some
abbrev YU:=@UInt8.toNat_inj
abbrev YX:=@World.cell?_of_block
abbrev ae2:=@Array.getElem?_replicate
abbrev ae3:=@Classical.choose_spec
abbrev ae5:=@List.concat_eq_append
abbrev ae6:=@List.cons_lt_cons_iff
abbrev ae7:=@List.eq_nil_or_concat
abbrev ae8:=@List.filter_cons_of_neg
abbrev ae9:=@List.filter_cons_of_pos
abbrev afa:=@List.filter_eq_nil_iff
abbrev afb:=@List.mem_append_right
abbrev afc:=@List.pairwise_iff_getElem
abbrev afe:=@Nat.and_two_pow_sub_one_eq_mod
abbrev aff:=@Nat.le_mul_of_pos_right
abbrev afg:=@Nat.two_pow_add_eq_or_of_lt
abbrev afh:=@Option.isSome_iff_exists
inductive GV where
 | b (x:Bool)
 | i (k:IntKind) (n:Int)
 | s (x:List UInt8)
 | l (xs:List GV)
 | g (cs:List GV)
 deriving Inhabited
def GV.cells:GV->List GV
 | .g cs=>cs
 | v=>[v]
def GV.scalar:GV->Bool
 | .g _=>false
 | _=>true
def GV.fO (size:Nat) (g:GV):Bool:=Nat.beq g.cells.length size&&g.cells.all GV.scalar
def fG (op:BinOp) (k:IntKind) (a b:Int):Option GV:=
 match op with
 | .add=>some (.i k (k.wrap (a+b)))
 | .sub=>some (.i k (k.wrap (a - b)))
 | .mul=>some (.i k (k.wrap (a * b)))
 | .quo=>if b=0 then none else some (.i k (k.wrap (a.tdiv b)))
 | .rem=>if b=0 then none else some (.i k (a.tmod b))
 | .and=>some (.i k (k.wrap (BitVec.ofInt k.bits a &&& BitVec.ofInt k.bits b).toNat))
 | .or=>some (.i k (k.wrap (BitVec.ofInt k.bits a ||| BitVec.ofInt k.bits b).toNat))
 | .xor=>some (.i k (k.wrap (BitVec.ofInt k.bits a ^^^ BitVec.ofInt k.bits b).toNat))
 | .andNot=>some (.i k (k.wrap (BitVec.ofInt k.bits a &&& ~~~ BitVec.ofInt k.bits b).toNat))
 | .eql=>some (.b (a==b))
 | .neq=>some (.b (a != b))
 | .lss=>some (.b (decide (a < b)))
 | .leq=>some (.b (decide (a<=b)))
 | .gtr=>some (.b (decide (a > b)))
 | .geq=>some (.b (decide (a>=b)))
 | _=>none
def mM (op:BinOp) (k:IntKind) (a b:Int):Option GV:=
 if b < 0 then none else
 match op with
 | .shl=>some (.i k (k.wrap (a * 2 ^ (min b.toNat k.bits))))
 | .shr=>some (.i k (a.fdiv (2 ^ (min b.toNat k.bits))))
 | _=>none
def uq (op:BinOp) (a b:List UInt8):Option GV:=
 match op with
 | .add=>if ((a.length+b.length:Nat):Int)<=IntKind.i64.max then some (.s (a++b)) else none
 | .eql=>some (.b (a==b))
 | .neq=>some (.b (!(a==b)))
 | .lss=>some (.b (Op.bytesLess a b))
 | .leq=>some (.b (Op.bytesLess a b || a==b))
 | .gtr=>some (.b (!(Op.bytesLess a b || a==b)))
 | .geq=>some (.b (!(Op.bytesLess a b)))
 | _=>none
def lS:List Nat->List GV->List GV->Option Bool
 | [],[],[]=>some true
 | 0::ks,.i k a::l,.i k' b::m=>if k=k' then (lS ks l m).map ((a==b)&&·) else none
 | 1::ks,.s a::l,.s b::m=>(lS ks l m).map ((a==b)&&·)
 | 2::ks,.b a::l,.b b::m=>(lS ks l m).map ((a==b)&&·)
 | _,_,_=>none
def gq (op:BinOp):GV->GV->Option GV
 | .i k a,.i k' b=>match op with
   | .shl=>mM .shl k a b
   | .shr=>mM .shr k a b
   | op=>if k=k' then fG op k a b else none
 | .s a,.s b=>uq op a b
 | _,_=>none
def Nz (op:BinOp):GV->GV->Option GV
 | .b a,.b b=>match op with
   | .eql=>some (.b (a==b))
   | .neq=>some (.b (!(a==b)))
   | _=>none
 | _,_=>none
def FP (op:BinOp) (ks:List Nat):GV->GV->Option GV
 | .g a,.g b=>match op with
   | .eql=>(lS ks a b).map .b
   | .neq=>(lS ks a b).map λr=>.b (!r)
   | _=>none
 | _,_=>none
def Q7 (op:UnOp):GV->Option GV
 | .b a=>match op with
   | .not=>some (.b (!a))
   | _=>none
 | .i k n=>match op with
   | .neg=>some (.i k (k.wrap (0 - n)))
   | .xor=>fG .xor k (if k.signed then -1 else k.max) n
   | _=>none
 | _=>none
def mY:List GV->Option (List UInt8)
 | []=>some []
 | .i .u8 n::rest=>if 0<=n/\n < 256 then (mY rest).map (UInt8.ofNat n.toNat::·) else none
 | _::_=>none
def dZ (s:List UInt8):List GV:=s.map λb=>.i .u8 b.toNat
inductive Nd where
 | arg
 | ci (k:IntKind) (n:Int)
 | cb (x:Bool)
 | cs (x:List UInt8)
 | bin (op:BinOp) (a b:Nat)
 | Bc (op:BinOp) (a b:Nat)
 | Bd (op:BinOp) (ks:List Nat) (a b:Nat)
 | un (op:UnOp) (a:Nat)
 | mm (big:Bool) (a b:Nat)
 | conv (k:IntKind) (a:Nat)
 | len (a:Nat)
 | slen (a:Nat)
 | Ci (a i:Nat)
 | Cj (a lo hi:Nat)
 | zX (size a lo hi:Nat)
 | idx (a i:Nat)
 | at (size a i:Nat)
 | cell (off a:Nat)
 | mk (l:List Nat)
 | ml (l:List Nat)
 | app (size bytes a b:Nat)
 | upd (size off a i:Nat) (vs:List Nat)
 | rep (size bytes z l c:Nat)
 | bytes (a:Nat)
 | str (a:Nat)
 | Ce (a:Nat)
 | same (a b:Nat)
 | xu (a j:Nat)
 | call (f:Nat) (l:List Nat) (j:Nat)
 | BR (z m k:Nat)
 | BU (m k:Nat)
 | yF (m k v:Nat)
 deriving Inhabited
def iW:GV->GV->Bool
 | .i k a,.i k' b=>Nat.beq (IntKind.casesOn k 0 1 2 3 4 5 6 7) (IntKind.casesOn k' 0 1 2 3 4 5 6 7)&&a==b
 | .s a,.s b=>a==b
 | _,_=>false
def eU (k:GV):List GV->Option GV
 | []=>none
 | .g [a,v]::l=>if iW k a=true then some v else eU k l
 | _::l=>eU k l
def iH (k v:GV):List GV->List GV
 | []=>[.g [k,v]]
 | .g [a,u]::l=>if iW k a=true then .g [k,v]::l else .g [a,u]::iH k v l
 | x::l=>x::iH k v l
def valsOf (val:Nat->Option GV):List Nat->Option (List GV)
 | []=>some []
 | n::l=>match val n,valsOf val l with
   | some g,some r=>some (g::r)
   | _,_=>none
def GV.int:GV->Option Int
 | .i _ n=>some n
 | _=>none
def putCells (cs:List GV) (off:Nat) (vs:List GV):Option (List GV):=
 if off+vs.length<=cs.length then some (cs.take off++vs++cs.drop (off+vs.length)) else none
def GV.put (x:GV) (off:Nat) (vs:List GV):Option GV:=
 match x with
 | .g cs=>(putCells cs off vs).map .g
 | _=>match off,vs with
   | 0,[v]=>some v
   | _,_=>none
def Nd.den (I:Nat->List GV->Option (List GV)) (val:Nat->Option GV):Nd->Option GV
 | .arg=>none
 | .ci k n=>some (.i k n)
 | .cb x=>some (.b x)
 | .cs x=>some (.s x)
 | .bin op a b=>match val a,val b with
   | some x,some y=>gq op x y
   | _,_=>none
 | .Bc op a b=>match val a,val b with
   | some x,some y=>Nz op x y
   | _,_=>none
 | .Bd op ks a b=>match val a,val b with
   | some x,some y=>FP op ks x y
   | _,_=>none
 | .un op a=>match val a with
   | some x=>Q7 op x
   | none=>none
 | .mm big a b=>match val a,val b with
   | some (.i k x),some (.i k' y)=>if k=k' then some (.i k (if big then (if x < y then y else x) else (if y < x then y else x))) else none
   | _,_=>none
 | .conv k a=>match val a with
   | some (.i _ n)=>some (.i k (k.wrap n))
   | _=>none
 | .len a=>match val a with
   | some (.l xs)=>some (.i .i64 xs.length)
   | _=>none
 | .slen a=>match val a with
   | some (.s x)=>some (.i .i64 x.length)
   | _=>none
 | .Ci a i=>match val a,val i with
   | some (.s x),some (.i _ k)=>if 0<=k then match x[k.toNat]? with
     | some c=>some (.i .u8 c.toNat)
     | none=>none
     else none
   | _,_=>none
 | .Cj a lo hi=>match val a,val lo,val hi with
   | some (.s x),some (.i _ l),some (.i _ h)=>if 0<=l/\l<=h/\h<=x.length then some (.s ((x.take h.toNat).drop l.toNat)) else none
   | _,_,_=>none
 | .zX size a lo hi=>match val a,val lo,val hi with
   | some (.l xs),some (.i _ l),some (.i _ h)=>
     if 0<=l/\l<=h/\h<=xs.length/\(xs.all λx=>Nat.beq x.cells.length size)=true then some (.l ((xs.take h.toNat).drop l.toNat)) else none
   | _,_,_=>none
 | .idx a i=>match val a,val i with
   | some (.l xs),some (.i _ k)=>if 0<=k/\k < xs.length then some (.i .i64 k) else none
   | _,_=>none
 | .at size a i=>match val a,val i with
   | some (.l xs),some (.i _ k)=>if 0<=k then match xs[k.toNat]? with
     | some x=>if x.cells.length=size then some x else none
     | none=>none
     else none
   | _,_=>none
 | .cell off a=>match val a with
   | some g=>match g.cells[off]? with
     | some c=>if c.scalar then some c else none
     | none=>none
   | none=>none
 | .mk l=>match valsOf val l with
   | some gs=>if gs.all GV.scalar then some (.g gs) else none
   | none=>none
 | .ml l=>(valsOf val l).map .l
 | .app size bs a b=>match val a,val b with
   | some (.l xs),some (.l ys)=>
     if ys.all (GV.fO size)=true/\2 * (xs.length+ys.length) * bs<=2 ^ 48/\xs.length+ys.length<=2 ^ 48 then some (.l (xs++ys)) else none
   | _,_=>none
 | .upd size off a i vs=>match val a,val i,valsOf val vs with
   | some (.l xs),some (.i _ k),some gs=>
     if 0<=k/\gs.all GV.scalar=true then match xs[k.toNat]? with
     | some x=>if x.cells.length=size then (x.put off gs).map λy=>.l (xs.set k.toNat y) else none
     | none=>none
     else none
   | _,_,_=>none
 | .rep size SK z l c=>match val z,val l,val c with
   | some x,some (.i _ n),some (.i _ m)=>
     if 0<=n/\n<=m/\SK * m<=2 ^ 48/\m<=2 ^ 60/\x.fO size=true then some (.l (List.replicate n.toNat x)) else none
   | _,_,_=>none
 | .bytes a=>match val a with
   | some (.s x)=>some (.l (dZ x))
   | _=>none
 | .str a=>match val a with
   | some (.l xs)=>if xs.length<=2 ^ 48 then (mY xs).map .s else none
   | _=>none
 | .Ce a=>match val a with
   | some (.s x)=>some (.s x)
   | _=>none
 | .same a b=>match val a,val b with
   | some (.l xs),some (.l ys)=>if ys.length=xs.length then some (.l ys) else none
   | _,_=>none
 | .xu a j=>match val a with
   | some (.i _ m)=>some (.b (decide (m=(j:Int))))
   | _=>none
 | .call f l j=>match valsOf val l with
   | some gs=>match I f gs with
     | some r=>r[j]?
     | none=>none
   | none=>none
 | .BR z m k=>match val z,val m,val k with
   | some d,some (.l xs),some g=>some ((eU g xs).getD d)
   | _,_,_=>none
 | .BU m k=>match val m,val k with
   | some (.l xs),some g=>some (.b (eU g xs).isSome)
   | _,_=>none
 | .yF m k v=>match val m,val k,val v with
   | some (.l xs),some g,some u=>some (.l (iH g u xs))
   | _,_,_=>none
def rJ (o:BinOp):Nat:=BinOp.casesOn o 0 1 2 3 4 5 6 7 8 9 10 11 12 13 14 15 16
theorem alf {o o':BinOp} (h:Nat.beq (rJ o) (rJ o')=true):o=o':=by
 cases o<;>cases o'<;>first | rfl | (simp [rJ] at h)
def EO (o:UnOp):Nat:=UnOp.casesOn o 0 1 2 3
theorem apv {o o':UnOp} (h:Nat.beq (EO o) (EO o')=true):o=o':=by
 cases o<;>cases o'<;>first | rfl | (simp [EO] at h)
def kc (k:IntKind):Nat:=IntKind.casesOn k 0 1 2 3 4 5 6 7
theorem O6 {o o':IntKind} (h:Nat.beq (kc o) (kc o')=true):o=o':=by
 cases o<;>cases o'<;>first | rfl | (simp [kc] at h)
def uU:List Nat->List Nat->Bool
 | [],[]=>true
 | a::l,b::m=>Nat.beq a b&&uU l m
 | _,_=>false
theorem VL:∀ {l m:List Nat},uU l m=true->l=m
 | [],[],_=>rfl
 | a::l,b::m,h=>by
   simp only [uU,aI] at h;rw [bn h.1,VL h.2]
 | [],_::_,h=>by simp [uU] at h
 | _::_,[],h=>by simp [uU] at h
def yc:List UInt8->List UInt8->Bool
 | [],[]=>true
 | a::l,b::m=>Nat.beq a.toNat b.toNat&&yc l m
 | _,_=>false
theorem SQ:∀ {l m:List UInt8},yc l m=true->l=m
 | [],[],_=>rfl
 | a::l,b::m,h=>by
   simp only [yc,aI] at h;rw [YU.1 (bn h.1),SQ h.2]
 | [],_::_,h=>by simp [yc] at h
 | _::_,[],h=>by simp [yc] at h
def D6 (a b:Int):Bool:=match a,b with
 | .ofNat m,.ofNat n=>Nat.beq m n
 | .negSucc m,.negSucc n=>Nat.beq m n
 | _,_=>false
theorem abE {a b:Int} (h:D6 a b=true):a=b:=by
 unfold D6 at h;split at h
 ·rw [bn h]
 ·rw [bn h]
 ·cases h
def Nd.eq (x y:Nd):Bool:=
 match x with
 | .arg=>false
 | .ci k n=>match y with | .ci k' n'=>Nat.beq (kc k) (kc k')&&D6 n n' | _=>false
 | .cb b=>match y with | .cb b'=>(bif b then b' else !b') | _=>false
 | .cs s=>match y with | .cs s'=>yc s s' | _=>false
 | .bin op a b=>match y with | .bin op' a' b'=>Nat.beq a a'&&Nat.beq b b'&&Nat.beq (rJ op) (rJ op') | _=>false
 | .Bc op a b=>match y with | .Bc op' a' b'=>Nat.beq a a'&&Nat.beq b b'&&Nat.beq (rJ op) (rJ op') | _=>false
 | .Bd op ks a b=>match y with | .Bd op' ks' a' b'=>Nat.beq a a'&&Nat.beq b b'&&Nat.beq (rJ op) (rJ op')&&uU ks ks' | _=>false
 | .un op a=>match y with | .un op' a'=>Nat.beq a a'&&Nat.beq (EO op) (EO op') | _=>false
 | .mm g a b=>match y with | .mm g' a' b'=>Nat.beq a a'&&Nat.beq b b'&&(bif g then g' else !g') | _=>false
 | .conv k a=>match y with | .conv k' a'=>Nat.beq a a'&&Nat.beq (kc k) (kc k') | _=>false
 | .len a=>match y with | .len a'=>Nat.beq a a' | _=>false
 | .slen a=>match y with | .slen a'=>Nat.beq a a' | _=>false
 | .Ci a i=>match y with | .Ci a' i'=>Nat.beq a a'&&Nat.beq i i' | _=>false
 | .Cj a l h=>match y with | .Cj a' l' h'=>Nat.beq a a'&&Nat.beq l l'&&Nat.beq h h' | _=>false
 | .zX s a l h=>match y with | .zX s' a' l' h'=>Nat.beq s s'&&Nat.beq a a'&&Nat.beq l l'&&Nat.beq h h' | _=>false
 | .idx a i=>match y with | .idx a' i'=>Nat.beq a a'&&Nat.beq i i' | _=>false
 | .at s a i=>match y with | .at s' a' i'=>Nat.beq s s'&&Nat.beq a a'&&Nat.beq i i' | _=>false
 | .cell o a=>match y with | .cell o' a'=>Nat.beq o o'&&Nat.beq a a' | _=>false
 | .mk l=>match y with | .mk l'=>uU l l' | _=>false
 | .ml l=>match y with | .ml l'=>uU l l' | _=>false
 | .app z s a b=>match y with | .app z' s' a' b'=>Nat.beq z z'&&Nat.beq s s'&&Nat.beq a a'&&Nat.beq b b' | _=>false
 | .upd s o a i vs=>match y with | .upd s' o' a' i' vs'=>Nat.beq s s'&&Nat.beq o o'&&Nat.beq a a'&&Nat.beq i i'&&uU vs vs' | _=>false
 | .rep s b z l c=>match y with | .rep s' b' z' l' c'=>Nat.beq s s'&&Nat.beq b b'&&Nat.beq z z'&&Nat.beq l l'&&Nat.beq c c' | _=>false
 | .bytes a=>match y with | .bytes a'=>Nat.beq a a' | _=>false
 | .str a=>match y with | .str a'=>Nat.beq a a' | _=>false
 | .Ce a=>match y with | .Ce a'=>Nat.beq a a' | _=>false
 | .same a b=>match y with | .same a' b'=>Nat.beq a a'&&Nat.beq b b' | _=>false
 | .xu a j=>match y with | .xu a' j'=>Nat.beq a a'&&Nat.beq j j' | _=>false
 | .call f l j=>match y with | .call f' l' j'=>Nat.beq f f'&&Nat.beq j j'&&uU l l' | _=>false
 | .BR z m k=>match y with | .BR z' m' k'=>Nat.beq z z'&&Nat.beq m m'&&Nat.beq k k' | _=>false
 | .BU m k=>match y with | .BU m' k'=>Nat.beq m m'&&Nat.beq k k' | _=>false
 | .yF m k v=>match y with | .yF m' k' v'=>Nat.beq m m'&&Nat.beq k k'&&Nat.beq v v' | _=>false
theorem PW {a b:Nat}:Nat.beq a b=true↔a=b:=⟨Nat.eq_of_beq_eq_true,λh=>by rw [h];exact Nat.beq_refl b⟩
theorem akW {l m:List Nat}:uU l m=true↔l=m:=⟨VL,λh=>by subst h;induction l with | nil=>rfl | cons a l ih=>simp [uU,ih]⟩
theorem Zr {l m:List UInt8}:yc l m=true↔l=m:=⟨SQ,λh=>by subst h;induction l with | nil=>rfl | cons a l ih=>simp [yc,ih]⟩
theorem abG {a b:Int}:D6 a b=true↔a=b:=⟨abE,λh=>by subst h;cases a<;>simp [D6]⟩
theorem acY {o o':BinOp}:rJ o=rJ o'↔o=o':=⟨λh=>alf (PW.2 h),λh=>by rw [h]⟩
theorem apu {o o':UnOp}:EO o=EO o'↔o=o':=⟨λh=>apv (PW.2 h),λh=>by rw [h]⟩
theorem ajU {o o':IntKind}:kc o=kc o'↔o=o':=⟨λh=>O6 (PW.2 h),λh=>by rw [h]⟩
theorem Ny {a b:Bool}:(bif a then b else !b)=true↔a=b:=by cases a<;>cases b<;>simp
theorem Nd.eq_of {x y:Nd} (h:x.eq y=true):x=y/\x≠.arg:=by
 cases x<;>simp only [Nd.eq] at h
 case arg=>cases h
 all_goals
  split at h
  ·simp only [aI,PW,akW,Zr,abG,acY,apu,ajU,Ny] at h
   simp_all
  ·cases h
class fV where
 nodes:List Nd
 dec:List (Nat×Bool)
 ka:Nat:=0
def Jt (x:Nd):List Nd->Nat->Option Nat
 | [],_=>none
 | y::l,k=>bif x.eq y then some k else Jt x l (k+1)
def dW [fV] (x:Nd):Option Nat:=Jt x fV.nodes 0
def Jo (n:Nat):List (Nat×Bool)->Option Bool
 | []=>none
 | p::l=>bif Nat.beq n p.1 then some p.2 else Jo n l
def TA [fV] (n:Nat):Option Bool:=Jo n fV.dec
theorem aaP {x:Nd}:∀ {l:List Nd} {k n:Nat},Jt x l k=some n->k<=n/\l[n - k]? = some x/\x≠.arg
 | [],_,_,h=>by simp [Jt] at h
 | y::l,k,n,h=>by
   simp only [Jt] at h;cases he:x.eq y with
   | true=>
     rw [he] at h;simp only [cond_true,aT] at h;subst h;obtain ⟨rfl,h2⟩:=Nd.eq_of he;exact ⟨Nat.le_refl _,by simp,h2⟩
   | false=>
     rw [he] at h;simp only [cond_false] at h;obtain ⟨h1,h2,h3⟩:=aaP h;refine ⟨by omega, ?_,h3⟩;have:n - k=(n - (k+1))+1:=by omega
     rw [this,pq];exact h2
theorem aik [fV] {x:Nd} {n:Nat} (h:dW x=some n):fV.nodes[n]? = some x/\x≠.arg:=by
 obtain ⟨_,h2,h3⟩:=aaP h;exact ⟨by simpa using h2,h3⟩
theorem Jp {n:Nat} {b:Bool}:∀ {l:List (Nat×Bool)},Jo n l=some b->(n,b)∈l
 | [],h=>by simp [Jo] at h
 | p::l,h=>by
   simp only [Jo] at h;cases he:Nat.beq n p.1 with
   | true=>
     rw [he] at h;simp only [cond_true,aT] at h;have:p=(n,b):=by rw [<- h,bn he]
     rw [this];simp
   | false=>
     rw [he] at h;simp only [cond_false] at h;exact wI _ (Jp h)
end
end Go.aN
namespace Go.aN
set_option linter.unusedSimpArgs false
noncomputable section
inductive AV where
 | b (x:Bool)
 | i (k:IntKind) (n:Int)
 | s (x:List UInt8)
 | jq
 | p (id off:Nat)
 | dL
 | sl (id off len:Nat) (cap:Option Nat)
 | nI
 | mp (id:Nat)
 | xC
 | fn (f:FuncId) (first caps:List AV)
 | pV
 | dS (t:TypeId) (v:AV)
 | agg (l:List AV)
 | dM (l:List AV)
 | z (k:IntKind) (lo hi:Int)
 | ro (l:List AV)
 | rp (a:AV) (off:Nat)
 | nd (n:Nat)
 | rx (n off:Nat)
 | sv (id n:Nat)
 | pv (id n off:Nat)
 | pd (id n:Nat)
 deriving Inhabited
structure Place where
 bl:Nat
 ba:Nat
 sz:Nat
 es:Nat
structure Env where
 pl:Nat->Option Place
 ro:Nat->Option Obj
 gh:Nat->Bool
instance:CoeFun Env (λ_=>Nat->Option Place):=⟨Env.pl⟩
class aF extends fV where
 tabs:List (Nat×List AV)
 I:Nat->List GV->Option (List GV)
 val:Nat->Option GV
 nZ:∀ (n:Nat) nd,nodes[n]? = some nd->nd≠.arg->∃g,val n=some g/\nd.den I val=some g
 yt:∀ (n:Nat) (b:Bool),(n,b)∈dec->val n=some (.b b)
def cO (xs:List Value):List Value:=xs.flatMap λx=>x.cells.toList
def Bg (cs:Array Value) (off:Nat) (l:List Value):Prop:=∀ (k:Nat) x,l[k]? = some x->cs[off+k]? = some x
mutual
def GR (ro:Nat->Option Obj):GV->Value->Prop
 | .b x,v=>v=.bool x
 | .i k n,v=>v=.int k n
 | .s x,v=>v=.string ⟨⟨x⟩⟩
 | .g cs,v=>∃vs,v=.agg ⟨vs⟩/\aO ro cs vs
 | .l xs,v=>(xs=[]/\∃p,v=.slice p 0 0)\/∃bl off c ys sz,v=.slice (some ⟨bl,off,none⟩) xs.length c/\xs.length<=c/\aO ro xs ys/\(∀x∈ys,x.cells.size=sz)/\
    (xs≠[]->∃cs elem fr,ro bl=some (.cells cs elem fr)/\off+(cO ys).length<=cs.size/\Bg cs off (cO ys))
def aO (ro:Nat->Option Obj):List GV->List Value->Prop
 | [],vs=>vs=[]
 | a::l,vs=>∃x xs,vs=x::xs/\GR ro a x/\aO ro l xs
end
variable [aF]
mutual
def VR (η:Env):AV->Value->Prop
 | .b x,v=>v=.bool x
 | .i k n,v=>v=.int k n
 | .s x,v=>v=.string ⟨⟨x⟩⟩
 | .jq,v=>v=.pointer none
 | .p id off,v=>∃q,η id=some q/\v=.pointer (some ⟨q.bl,q.ba+off,none⟩)
 | .dL,v=>v=.slice none 0 0
 | .sl id off len cap,v=>∃q,η id=some q/\len<=cap.getD ((q.sz - off) / q.es)/\v=.slice (some ⟨q.bl,q.ba+off,none⟩) len (cap.getD ((q.sz - off) / q.es))
 | .nI,v=>v=.map none
 | .mp id,v=>∃q,η id=some q/\v=.map (some q.bl)
 | .xC,v=>v=.nilFunc
 | .fn f fi caps,v=>∃us vs,v=.func (.func f) ⟨us⟩ ⟨vs⟩/\ay η fi us/\ay η caps vs
 | .pV,v=>v=.nilIface
 | .dS t a,v=>∃x,v=.iface t x/\VR η a x
 | .agg l,v=>∃vs,v=.agg ⟨vs⟩/\ay η l vs
 | .dM l,v=>∃vs,v=.tuple ⟨vs⟩/\ay η l vs
 | .z k lo hi,v=>∃n:Int,lo<=n/\n<=hi/\v=.int k n
 | .ro l,v=>(l=[]/\∃p,v=.slice p 0 0)\/∃bl off c xs sz,v=.slice (some ⟨bl,off,none⟩) l.length c/\l.length<=c/\ay η l xs/\(∀x∈xs,x.cells.size=sz)/\
    (l≠[]->∃cs elem fr,η.ro bl=some (.cells cs elem fr)/\off+(cO xs).length<=cs.size/\Bg cs off (cO xs))
 | .rp a off,v=>∃bl base cs elem fr x,η.ro bl=some (.cells cs elem fr)/\VR η a x/\v=.pointer (some ⟨bl,base+off,none⟩)/\base+x.cells.size<=cs.size/\Bg cs base x.cells.toList
 | .nd n,v=>∃g,aF.val n=some g/\g.scalar=true/\GR η.ro g v
 | .rx n off,v=>∃g bl base cs elem fr x,aF.val n=some g/\η.ro bl=some (.cells cs elem fr)/\GR η.ro g x/\v=.pointer (some ⟨bl,base+off,none⟩)/\base+x.cells.size<=cs.size/\Bg cs base x.cells.toList
 | .sv id n,v=>∃xs,aF.val n=some (.l xs)/\((∃q,η id=some q/\xs.length<=q.sz / q.es/\v=.slice (some ⟨q.bl,q.ba,none⟩) xs.length (q.sz / q.es))\/(η.gh id=true/\xs=[]/\v=.slice none 0 0))
 | .pv id n off,v=>∃q k i,η id=some q/\aF.val n=some (.i k i)/\v=.pointer (some ⟨q.bl,q.ba+i.toNat * q.es+off,none⟩)
 | .pd id n,v=>∃xs p,aF.val n=some (.l xs)/\v=.pointer p/\(xs≠[]->∃q,η id=some q/\p=some ⟨q.bl,q.ba,none⟩)
def ay (η:Env):List AV->List Value->Prop
 | [],vs=>vs=[]
 | a::l,vs=>∃x xs,vs=x::xs/\VR η a x/\ay η l xs
end
inductive Tr (α:Type) where
 | nil
 | nd (v:Option α) (l r:Tr α)
 deriving Inhabited
def Tr.val {α:Type} (t:Tr α):Option α:=Tr.casesOn t none (λv _ _=>v)
def Tr.zW {α:Type} (t:Tr α):Tr α:=Tr.casesOn t .nil (λ_ l _=>l)
def Tr.Ah {α:Type} (t:Tr α):Tr α:=Tr.casesOn t .nil (λ_ _ r=>r)
def Tr.tC {α:Type} (p:List Bool):Tr α->Option α:=List.rec (motive:=λ_=>Tr α->Option α) Tr.val (λb _ ih t=>ih (bif b then t.zW else t.Ah)) p
def Tr.EJ {α:Type} (x:Option α) (p:List Bool):Tr α->Tr α:=List.rec (motive:=λ_=>Tr α->Tr α) (λt=>.nd x t.zW t.Ah)
 (λb _ ih t=>bif b then .nd t.val (ih t.zW) t.Ah else .nd t.val t.zW (ih t.Ah)) p
def KU (f:Nat):Nat->List Bool:=Nat.rec (motive:=λ_=>Nat->List Bool) (λ_=>[]) (λ_ ih n=>bif Nat.beq n 0 then [] else Nat.beq ((n - 1) % 2) 0::ih ((n - 1) / 2)) f
def path (n:Nat):List Bool:=KU (Nat.log2 n+1) n
def Tr.get {α:Type} (t:Tr α) (n:Nat):Option α:=Tr.tC (path n) t
def Tr.set {α:Type} (t:Tr α) (n:Nat) (x:Option α):Tr α:=Tr.EJ x (path n) t
inductive aY where
 | cells (c:List AV) (et:TypeId) (rw opn:Bool)
 | iter (s:List UInt8) (pos:Nat)
 | map (es:List (AV×AV))
 | iterM (m:Option Nat)
 | vec (n:Nat) (et:TypeId) (f:Bool)
 | smap (n:Nat) (kk:Option IntKind) (sz:Option Nat)
 | pmap (es:List (List UInt8×AV))
 deriving Inhabited
structure ak where
 h:Tr aY
 next:Nat
 lock:Nat
 deriving Inhabited
def ak.get (σ:ak) (id:Nat):Option aY:=σ.h.get id
def ak.put (σ:ak) (id:Nat) (o:aY):ak:={ σ with h:=σ.h.set id (some o) }
def ak.kill (σ:ak) (id:Nat):ak:={ σ with h:=σ.h.set id none }
def ak.new (σ:ak) (o:aY):ak:={ σ with h:=σ.h.set σ.next (some o),next:=σ.next+1 }
def qJ {α β:Type} (f:α->Option β):List α->Option (List β)
 | []=>some []
 | x::xs=>match f x with
   | none=>none
   | some y=>match qJ f xs with
     | none=>none
     | some ys=>some (y::ys)
def AV.toVal:Nat->AV->Option Value
 | 0,_=>none
 | n+1,a=>
   match a with
   | .b x=>some (.bool x)
   | .i k x=>some (.int k x)
   | .s x=>some (.string ⟨⟨x⟩⟩)
   | .jq=>some (.pointer none)
   | .dL=>some (.slice none 0 0)
   | .nI=>some (.map none)
   | .xC=>some .nilFunc
   | .pV=>some .nilIface
   | .dS t v=>(AV.toVal n v).map (.iface t)
   | .agg l=>(qJ (AV.toVal n) l).map λvs=>.agg ⟨vs⟩
   | .dM l=>(qJ (AV.toVal n) l).map λvs=>.tuple ⟨vs⟩
   | _=>none
def kC:Nat->Value->Option AV
 | 0,_=>none
 | n+1,v=>
   match v with
   | .bool x=>some (.b x)
   | .int k x=>some (.i k x)
   | .string s=>some (.s s.data.toList)
   | .pointer none=>some .jq
   | .slice none 0 0=>some .dL
   | .map none=>some .nI
   | .nilFunc=>some .xC
   | .nilIface=>some .pV
   | .iface t x=>(kC n x).map (.dS t)
   | .agg cs=>(qJ (kC n) cs.toList).map .agg
   | .tuple cs=>(qJ (kC n) cs.toList).map .dM
   | _=>none
def nM {α:Type} (P:Program):Sem α->Option α
 | .pure a=>some a
 | .program k=>nM P (k P)
 | .mark _ k=>nM P k
 | _=>none
structure aU where
 t:Tr AV
 n:Nat
 gn:Nat
def aU.eval (a:aU):Operand->Option AV
 | .tmp t=>a.t.get t
 | .const v=>kC 4 v
 | .global g=>if g < a.gn then some (.p g 0) else none
 | .func f=>some (.fn f [] [])
def aU.put (a:aU) (dst:Option Tmp) (v:Option AV):Option aU:=
 match dst with
 | none=>some a
 | some d=>if d < a.n then some { a with t:=a.t.set d v } else none
def AV.cells:AV->List AV
 | .agg l=>l
 | v=>[v]
def AV.lu:AV->Bool
 | .agg _ | .dM _=>false
 | _=>true
def wE (P:Program) (t:TypeId):Option (List AV):=
 match P.info? t with
 | some i=>match i.zero with
   | some z=>(kC 4 z).map AV.cells
   | none=>none
 | none=>none
def mD (P:Program) (t:TypeId):Option Bool:=
 match P.underlying t with
 | some (.struct _) | some (.array _ _)=>some true
 | some _=>some false
 | none=>none
def sizeT (P:Program) (t:TypeId):Option Nat:=(P.info? t).map (·.size)
def takeN (l:List AV) (off n:Nat):Option (List AV):=
 let r:=(l.drop off).take n
 if r.length=n then some r else none
def xF (l:List AV) (off:Nat) (vs:List AV):Option (List AV):=
 if off+vs.length<=l.length then some (l.take off++vs++l.drop (off+vs.length)) else none
def xU (place:Nat->Option (Nat×Nat)) (cells:List AV):List (Nat×AV)->Option (List AV)
 | []=>some cells
 | (i,v)::rest=>
   match place i with
   | none=>none
   | some (off,size)=>
     if v.cells.length=size then
      match xF cells off v.cells with
      | some cs=>xU place cs rest
      | none=>none
     else none
def BA (ev:Operand->Option AV):List (Nat×Operand)->Option (List (Nat×AV))
 | []=>some []
 | (i,x)::rest=>match ev x,BA ev rest with
   | some v,some r=>some ((i,v)::r)
   | _,_=>none
def yx (ev:Operand->Option AV):List Operand->Option (List AV)
 | []=>some []
 | x::rest=>match ev x,yx ev rest with
   | some v,some r=>some (v::r)
   | _,_=>none
def Nk (P:Program) (t:TypeId) (cs:List AV) (off:Nat):Option AV:=
 match mD P t with
 | some true=>match sizeT P t with
   | some n=>(takeN cs off n).map .agg
   | none=>none
 | some false=>cs[off]?
 | none=>none
def Le (P:Program):List Field->Option (List (Nat×Nat))
 | []=>some []
 | f::fs=>match sizeT P f.type,Le P fs with
   | some n,some r=>some ((f.offset,n)::r)
   | _,_=>none
def MS (P:Program) (t:TypeId) (parts:List (Nat×AV)):Option AV:=
 match wE P t,P.underlying t with
 | some zero,some (.struct fields)=>
   match Le P fields.toList with
   | some places=>(xU (λi=>places[i]?) zero parts).map .agg
   | none=>none
 | some zero,some (.array _ elem)=>
   match sizeT P elem with
   | some size=>(xU (λi=>some (i * size,size)) zero parts).map .agg
   | none=>none
 | _,_=>none
def iP (n:Nat) (zero:List AV):List AV:=(List.replicate n zero).flatten
def sK (P:Program) (t:TypeId) (σ:ak) (a:AV):Option AV:=
 match a with
 | .p id off=>
   match σ.get id with
   | some (.cells c _ _ _)=>
     match mD P t with
     | some true=>match sizeT P t with
       | some n=>(takeN c off n).map .agg
       | none=>none
     | some false=>c[off]?
     | none=>none
   | _=>none
 | .rp e off=>
   match mD P t with
   | some true=>match sizeT P t with
     | some n=>(takeN e.cells off n).map .agg
     | none=>none
   | some false=>e.cells[off]?
   | none=>none
 | _=>none
def AY (P:Program) (t:TypeId) (σ:ak) (a v:AV):Option ak:=
 match a with
 | .p id off=>
   match σ.get id with
   | some (.cells c et true opn)=>
     if σ.lock<=id/\sizeT P t=some v.cells.length/\v.cells.all AV.lu then
      (xF c off v.cells).map λc'=>σ.put id (.cells c' et true opn)
     else none
   | _=>none
 | _=>none
def sJ:AV->Option Int
 | .i _ n=>some n
 | _=>none
def xW (len:Nat) (room:Nat->Bool):Option AV->Option Nat
 | none=>some len
 | some v=>match sJ v with
   | some h=>if 0<=h/\room h.toNat=true then some h.toNat else none
   | none=>none
def FB (h:Nat):Option AV->Option Nat
 | none=>some 0
 | some v=>match sJ v with
   | some l=>if 0<=l/\l<=h then some l.toNat else none
   | none=>none
def uK (len:Nat) (room:Nat->Bool) (low high:Option AV):Option (Nat×Nat):=
 match xW len room high with
 | none=>none
 | some h=>match FB h low with
   | none=>none
   | some l=>some (l,h)
def Ei (ev:Operand->Option AV):Option Operand->Option (Option AV)
 | none=>some none
 | some x=>(ev x).map some
end
end Go.aN
namespace Go.aN
set_option linter.unusedSimpArgs false
noncomputable section
variable [fV]
set_option linter.unusedSectionVars false
set_option linter.unusedVariables false
def bytesOf:List AV->Option (List UInt8)
 | []=>some []
 | .i .u8 n::rest=>if 0<=n/\n < 256 then (bytesOf rest).map (UInt8.ofNat n.toNat::·) else none
 | _::_=>none
def sQ (s:List UInt8):List AV:=s.map λb=>.i .u8 b.toNat
def uj (a:AV):Option Value:=a.toVal 4
def sV (P:Program) (t:TypeId):Option (TypeId×Nat×Nat×List AV):=
 match P.underlying t with
 | some (.slice e)=>match P.info? e,wE P e with
   | some i,some z=>if e≠0/\z.length=i.size then some (e,i.size,i.bytes,z) else none
   | _,_=>none
 | _=>none
def wz (σ:ak) (size:Nat):AV->Option (Nat×List AV)
 | .dL=>some (0,[])
 | .sl id off len _=>match σ.get id with
   | some (.cells c _ _ _)=>(takeN c off (len * size)).map λr=>(len,r)
   | _=>none
 | .s x=>if size=1 then some (x.length,sQ x) else none
 | .ro l=>if l.all (λa=>a.cells.length==size)=true then some (l.length,l.flatMap AV.cells) else none
 | _=>none
def BM (P:Program) (t:TypeId):Bool:=
 match P.underlying t with
 | some (.slice _) | some .string=>true
 | _=>false
def sliceLen:AV->Nat
 | .sl _ _ n _=>n
 | _=>0
def mW (e size bytes:Nat) (s:AV) (n:Nat) (new:List AV) (σ:ak):Option (AV×ak):=
 if size=0\/new.all AV.lu=false\/¬ (2 * (sliceLen s+n) * bytes<=2 ^ 48/\sliceLen s+n<=2 ^ 48) then none else
 match s with
 | .dL=>
   if n=0 then some (.dL,σ) else some (.sl σ.next 0 n none,σ.new (.cells new e true true))
 | .sl id off len (some cap)=>
   if len+n<=cap then
    if n=0 then some (s,σ) else
    match σ.get id with
    | some (.cells c et true opn)=>
      if σ.lock<=id then
       (xF c (off+len * size) new).map λc'=>(.sl id off (len+n) (some cap),σ.put id (.cells c' et true opn))
      else none
    | _=>none
   else
    match σ.get id with
    | some (.cells c _ _ _)=>(takeN c off (len * size)).map λold=>(.sl σ.next 0 (len+n) none,σ.new (.cells (old++new) e true true))
    | _=>none
 | .sl id off len none=>
   if n=0 then some (s,σ)
   else if σ.lock<=id then
    match σ.get id with
    | some (.cells c et true true)=>if et=e then (takeN c off (len * size)).map λold=>(.sl σ.next 0 (len+n) none,(σ.kill id).new (.cells (old++new) e true true)) else none
    | _=>none
   else none
 | .ro l=>if n=0 then some (.ro l,σ) else none
 | _=>none
def RZ (P:Program) (argTypes:Array TypeId) (s x:AV) (σ:ak):Option (AV×ak):=
 match argTypes.toList with
 | [t,t1]=>
   match sV P t,BM P t1 with
   | some (e,size,bytes,_),true=>
     match wz σ size x with
     | some (n,new)=>mW e size bytes s n new σ
     | none=>none
   | _,_=>none
 | _=>none
def MZ (P:Program) (σ:ak) (t:TypeId) (x:AV):Option AV:=
 match P.underlying t,x with
 | some .string,.s s=>some (.i .i64 s.length)
 | some (.slice _),.dL=>some (.i .i64 0)
 | some (.slice _),.sl _ _ n _=>some (.i .i64 n)
 | some (.slice _),.ro l=>some (.i .i64 l.length)
 | some (.map _ _),.nI=>some (.i .i64 0)
 | some (.map _ _),.mp id=>match σ.get id with
   | some (.map es)=>some (.i .i64 es.length)
   | _=>none
 | some (.array n _),_=>some (.i .i64 n)
 | _,_=>none
def Nb (P:Program) (t:TypeId) (len cap:AV) (σ:ak):Option (AV×ak):=
 match sV P t,sJ len,sJ cap with
 | some (e,size,bytes,z),some l,some c=>
   if 0<=l/\l<=c/\bytes * c<=2 ^ 48/\c<=2 ^ 60 then
    some (.sl σ.next 0 l.toNat (some c.toNat),σ.new (.cells (if size=0 then [] else iP c.toNat z) e true false))
   else none
 | _,_,_=>none
def Nl (size:Nat) (es:List AV) (l h:Nat):Option AV:=
 if h=l then some (.ro []) else
 match es[0]? with
 | some a=>if a.cells.length=size then some (.ro ((es.take h).drop l)) else none
 | none=>none
def xY (P:Program) (t:TypeId) (σ:ak) (x:AV) (lo hi:Option AV):Option AV:=
 match P.underlying t,x with
 | some .string,.s s=>
   (uK s.length (λh=>Nat.ble h s.length) lo hi).map λ(l,h)=>.s ((s.take h).drop l)
 | some (.slice e),.sl id off len cap=>
   match sizeT P e,cap with
   | some size,some c=>
     (uK len (λh=>Nat.ble h c) lo hi).bind λ(l,h)=>
      if c=l then some (.sl id off (h - l) (some 0)) else some (.sl id (off+l * size) (h - l) (some (c - l)))
   | some size,none=>
     match σ.get id with
     | some (.cells _ et _ true)=>if et=e then
        (uK len (λh=>Nat.ble h len) lo hi).bind λ(l,h)=>
         if l < len then some (.sl id (off+l * size) (h - l) none) else if l=0 then some (.sl id off (h - l) none) else if h=l then some (.ro []) else none
       else none
     | _=>none
   | none,_=>none
 | some (.slice e),.dL=>match sizeT P e with
   | some _=>(uK 0 (λh=>Nat.ble h 0) lo hi).map λ_=>.dL
   | none=>none
 | some (.slice e),.ro es=>match sizeT P e with
   | some size=>(uK es.length (λh=>Nat.ble h es.length) lo hi).bind λ(l,h)=>Nl size es l h
   | none=>none
 | some (.array n e),.p id off=>match sizeT P e with
   | some size=>(uK n (λh=>Nat.ble h n) lo hi).map λ(l,h)=>
      if n=l then .sl id off (h - l) (some 0) else .sl id (off+l * size) (h - l) (some (n - l))
   | none=>none
 | _,_=>none
def MX (P:Program) (t:TypeId) (x:AV) (f:Nat):Option AV:=
 match P.underlying t,x with
 | some (.struct fields),.p id off=>
   match fields[f]? with
   | some fd=>match sizeT P fd.type with
     | some n=>if n=0 then none else some (.p id (off+fd.offset))
     | none=>none
   | none=>none
 | some (.struct fields),.rp a off=>
   match fields[f]? with
   | some fd=>match sizeT P fd.type with
     | some n=>if n=0 then none else some (.rp a (off+fd.offset))
     | none=>none
   | none=>none
 | _,_=>none
def MW (P:Program) (t:TypeId) (x:AV) (f:Nat):Option AV:=
 match P.underlying t,x with
 | some (.struct fields),.agg cs=>
   match fields[f]? with
   | some fd=>Nk P fd.type cs fd.offset
   | none=>none
 | _,_=>none
def vM (P:Program) (t:TypeId) (x ix:AV):Option AV:=
 match P.underlying t,x,sJ ix with
 | some (.slice e),.sl id off len _,some k=>
   match sizeT P e with
   | some size=>if 0<=k/\k < len then some (.p id (off+k.toNat * size)) else none
   | none=>none
 | some (.array len e),.p id off,some k=>
   match sizeT P e with
   | some size=>if 0<=k/\k < len then some (.p id (off+k.toNat * size)) else none
   | none=>none
 | some (.slice e),.ro l,some k=>
   match sizeT P e with
   | some size=>if 0<=k then match l[k.toNat]? with
     | some a=>if a.cells.length=size then some (.rp a 0) else none
     | none=>none
     else none
   | none=>none
 | some (.array len e),.rp a off,some k=>
   match sizeT P e with
   | some size=>if 0<=k/\k < len then some (.rp a (off+k.toNat * size)) else none
   | none=>none
 | _,_,_=>none
def AX (P:Program) (t:TypeId) (x ix:AV):Option AV:=
 match P.underlying t,x,sJ ix with
 | some .string,.s s,some k=>
   if 0<=k then match s[k.toNat]? with
    | some c=>some (.i .u8 c.toNat)
    | none=>none
   else none
 | some (.array len e),.agg cs,some k=>
   match sizeT P e with
   | some size=>if 0<=k/\k < len then Nk P e cs (k.toNat * size) else none
   | none=>none
 | _,_,_=>none
def vK (P:Program) (src dst:TypeId) (x:AV) (σ:ak):Option (AV×ak):=
 match P.underlying src,P.underlying dst,x with
 | some _,some (.int k),.i _ n=>some (.i k (k.wrap n),σ)
 | some .string,some .string,.s s=>some (.s s,σ)
 | some .string,some (.slice e),.s s=>
   match P.underlying e with
   | some (.int .u8)=>if e≠0/\sizeT P e=some 1 then some (.sl σ.next 0 s.length none,σ.new (.cells (sQ s) e true true)) else none
   | _=>none
 | some (.slice e),some .string,.dL=>
   match P.underlying e with
   | some (.int .u8)=>some (.s [],σ)
   | _=>none
 | some (.slice e),some .string,.sl id off len _=>
   match P.underlying e,σ.get id with
   | some (.int .u8),some (.cells c _ _ _)=>match takeN c off len with
     | some r=>(bytesOf r).map λb=>(.s b,σ)
     | none=>none
   | _,_=>none
 | some (.slice e),some .string,.ro l=>
   match P.underlying e with
   | some (.int .u8)=>(bytesOf l).map λb=>(.s b,σ)
   | _=>none
 | some (.pointer t),some .unsafePointer,.p id off=>
   match σ.get id,sizeT P t with
   | some (.cells c et _ false),some n=>if et≠0/\off < c.length/\n≠0 then some (.p id off,σ) else none
   | _,_=>none
 | some .unsafePointer,some (.pointer u),.p id off=>
   match σ.get id,sizeT P u with
   | some (.cells c et _ false),some _=>if et≠0/\liesAt P P.depth et (c.length / P.cellsOf et) off u 1=true then some (.p id off,σ) else none
   | _,_=>none
 | _,_,_=>none
def NT (op:BinOp) (a b c d:Int):Option AV:=
 match op with
 | .lss=>if b < c then some (.b true) else if d<=a then some (.b false) else none
 | .leq=>if b<=c then some (.b true) else if d < a then some (.b false) else none
 | .gtr=>if d < a then some (.b true) else if b<=c then some (.b false) else none
 | .geq=>if d<=a then some (.b true) else if b < c then some (.b false) else none
 | .eql=>if b < c\/d < a then some (.b false) else none
 | .neq=>if b < c\/d < a then some (.b true) else none
 | _=>none
def qy (P:Program) (op:BinOp) (t:TypeId) (x y:Operand) (a b:AV):Option AV:=
 match op,a,b with
 | .eql,.p id off,.p id' off'=>match P.underlying t with
   | some (.pointer e)=>match sizeT P e with
     | some n=>if id=id'/\n≠0 then some (.b (off==off')) else none
     | none=>none
   | _=>none
 | .neq,.p id off,.p id' off'=>match P.underlying t with
   | some (.pointer e)=>match sizeT P e with
     | some n=>if id=id'/\n≠0 then some (.b (!(off==off'))) else none
     | none=>none
   | _=>none
 | .eql,.p _ _,.jq | .eql,.jq,.p _ _=>match P.underlying t with
   | some (.pointer _)=>some (.b false)
   | _=>none
 | .neq,.p _ _,.jq | .neq,.jq,.p _ _=>match P.underlying t with
   | some (.pointer _)=>some (.b true)
   | _=>none
 | .eql,.ro (_::_),.dL | .eql,.dL,.ro (_::_)=>match P.underlying t with
   | some (.slice _)=>some (.b false)
   | _=>none
 | .neq,.ro (_::_),.dL | .neq,.dL,.ro (_::_)=>match P.underlying t with
   | some (.slice _)=>some (.b true)
   | _=>none
 | .eql,.rp _ _,.jq | .eql,.jq,.rp _ _=>match P.underlying t with
   | some (.pointer _)=>some (.b false)
   | _=>none
 | .neq,.rp _ _,.jq | .neq,.jq,.rp _ _=>match P.underlying t with
   | some (.pointer _)=>some (.b true)
   | _=>none
 | .eql,.sl ..,.dL | .eql,.dL,.sl ..=>match P.underlying t with
   | some (.slice _)=>some (.b false)
   | _=>none
 | .neq,.sl ..,.dL | .neq,.dL,.sl ..=>match P.underlying t with
   | some (.slice _)=>some (.b true)
   | _=>none
 | .eql,.dS _ _,.pV | .eql,.pV,.dS _ _=>match P.underlying t with
   | some (.interface _)=>some (.b false)
   | _=>none
 | .neq,.dS _ _,.pV | .neq,.pV,.dS _ _=>match P.underlying t with
   | some (.interface _)=>some (.b true)
   | _=>none
 | .eql,.mp _,.nI | .eql,.nI,.mp _=>match P.underlying t with
   | some (.map _ _)=>some (.b false)
   | _=>none
 | .neq,.mp _,.nI | .neq,.nI,.mp _=>match P.underlying t with
   | some (.map _ _)=>some (.b true)
   | _=>none
 | _,.z k lo hi,.i k' n=>if k=k' then NT op lo hi n n else none
 | _,.i k n,.z k' lo hi=>if k=k' then NT op n n lo hi else none
 | _,_,_=>
   match uj a,uj b with
   | some u,some v=>(nM P (do eqGuard op t x y u v;binOp op t u v)).bind (kC 4)
   | _,_=>none
def JU:AV->AV->Option Bool
 | .i k a,.i k' b=>if k=k' then some (a==b) else none
 | .s a,.s b=>some (a==b)
 | .b a,.b b=>some (a==b)
 | .z k lo hi,.i k' b=>if k=k'/\(b < lo\/hi < b) then some false else none
 | _,_=>none
def yA (k:AV):List (AV×AV)->Nat->Option (Option (Nat×AV))
 | [],_=>some none
 | e::es,i=>match JU k e.1 with
   | some true=>some (some (i,e.2))
   | some false=>yA k es (i+1)
   | none=>none
def Gj (P:Program) (t:TypeId) (k:AV):Bool:=
 match P.underlying t,k with
 | some (.int _),.i _ _ | some (.int _),.z _ _ _ | some .string,.s _ | some .bool,.b _=>true
 | _,_=>false
def Na (P:Program) (t:TypeId) (m k:AV) (ok:Bool) (σ:ak):Option AV:=
 match P.underlying t with
 | some (.map kt et)=>
   match (match m with | .nI=>some [] | .mp id=>(match σ.get id with | some (.map es)=>some es | _=>none) | _=>none) with
   | some es=>
     if Gj P kt k then
      match yA k es 0 with
      | some (some (_,v))=>some (if ok then .dM [v,.b true] else v)
      | some none=>
        match P.info? et with
        | some i=>match i.zero with
          | some z=>(kC 4 z).map λz=>if ok then .dM [z,.b false] else z
          | none=>none
        | none=>none
      | none=>none
     else none
   | none=>none
 | _=>none
def FD (P:Program) (t:TypeId) (m k v:AV) (σ:ak):Option ak:=
 match P.underlying t,m with
 | some (.map kt _),.mp id=>
   match σ.get id with
   | some (.map es)=>
     if σ.lock<=id/\Gj P kt k then
      match yA k es 0 with
      | some (some (i,_))=>some (σ.put id (.map (es.set i (k,v))))
      | some none=>some (σ.put id (.map (es++[(k,v)])))
      | none=>none
     else none
   | _=>none
 | _,_=>none
def D7 (P:Program) (t:TypeId):Option Bool:=
 match P.underlying t with
 | some (.interface _)=>some true
 | some _=>some false
 | none=>none
def Np (P:Program) (x:AV) (t:TypeId) (ok:Bool):Option AV:=
 match D7 P t,x with
 | some false,.dS u v=>
   if u=t then some (if ok then .dM [v,.b true] else v)
   else if ok then match P.info? t with
    | some i=>match i.zero with
      | some z=>(kC 4 z).map λz=>.dM [z,.b false]
      | none=>none
    | none=>none
   else none
 | some false,.pV=>
   if ok then match P.info? t with
    | some i=>match i.zero with
      | some z=>(kC 4 z).map λz=>.dM [z,.b false]
      | none=>none
    | none=>none
   else none
 | _,_=>none
def Nh (it:AV) (σ:ak):Option (AV×ak):=
 match it with
 | .p id 0=>
   match σ.get id with
   | some (.iter s pos)=>
     if σ.lock<=id then
      if pos < s.length then
       let r:=Utf8.decode ⟨⟨s⟩⟩ pos
       some (.dM [.b true,.i .i64 pos,.i .i32 r.1],σ.put id (.iter s (pos+r.2)))
      else some (.dM [.b false],σ)
     else none
   | _=>none
 | _=>none
def Sj (P:Program) (argTypes:Array TypeId) (d x:AV) (σ:ak):Option (AV×ak):=
 match argTypes[0]? with
 | some t=>
   match sV P t,d with
   | some (_,size,_,_),.sl id off dLen _=>
     match wz σ size x,σ.get id with
     | some (n,new),some (.cells c et true opn)=>
       let k:=Nat.min n dLen
       if size=0 then none else
       if σ.lock<=id/\new.all AV.lu then
        (xF c off (new.take (k * size))).map λc'=>(.i .i64 k,σ.put id (.cells c' et true opn))
       else none
     | _,_=>none
   | some (_,size,_,_),.dL=>match wz σ size x with
     | some _=>some (.i .i64 0,σ)
     | none=>none
   | _,_=>none
 | none=>none
def Si (P:Program) (t:TypeId) (x:AV) (σ:ak):Option (AV×ak):=
 match P.underlying t,x with
 | some (.slice _),.dL=>some (.dM [],σ)
 | some (.slice _),.ro []=>some (.dM [],σ)
 | some (.slice e),.sl id off n _=>
   if n=0 then some (.dM [],σ) else
   match wE P e,σ.get id with
   | some z,some (.cells c et true opn)=>
     if σ.lock<=id/\z.all AV.lu then
      (xF c off (iP n z)).map λc'=>(.dM [],σ.put id (.cells c' et true opn))
     else none
   | _,_=>none
 | some (.map _ _),.nI=>some (.dM [],σ)
 | some (.map _ _),.mp id=>match σ.get id with
   | some (.map _)=>if σ.lock<=id then some (.dM [],σ.put id (.map [])) else none
   | _=>none
 | _,_=>none
def Tv (m m':Nat):Bool:=match fV.nodes[m]?,fV.nodes[m']? with
 | some (.ci k a),some (.ci k' b)=>Nat.beq (kc k) (kc k')&&!(D6 a b)
 | some (.cs a),some (.cs b)=>!(yc a b)
 | _,_=>false
def BX (n m:Nat):List (Nat×Bool)->Bool
 | []=>false
 | p::l=>(bif p.2 then (match fV.nodes[p.1]? with
   | some (.bin .eql n' m')=>Nat.beq n n'&&Tv m m'
   | _=>false) else false) || BX n m l
def Bh:BinOp->Option BinOp
 | .eql=>some .neq
 | .neq=>some .eql
 | .lss=>some .geq
 | .geq=>some .lss
 | .leq=>some .gtr
 | .gtr=>some .leq
 | _=>none
def FX (c n m:Nat):List (Nat×Bool)->Option Bool
 | []=>none
 | p::l=>match fV.nodes[p.1]? with
   | some (.bin op n' m')=>bif Nat.beq n n'&&Nat.beq m m'&&Nat.beq (rJ op) c then some p.2 else FX c n m l
   | _=>FX c n m l
def La (op:BinOp) (n m:Nat):Option Bool:=match Bh op with
 | some op'=>(FX (rJ op') n m fV.dec).map λb=>!b
 | none=>none
def Xt (x:Nd):Option Bool:=match x with
 | .bin .eql n m=>bif BX n m fV.dec then some false else La .eql n m
 | .bin .neq n m=>bif BX n m fV.dec then some true else La .neq n m
 | .bin op n m=>La op n m
 | _=>none
def jB (x:Nd):Option AV:=
 match dW x with
 | some n=>match TA n with
   | some b=>some (.b b)
   | none=>match Xt x with
     | some b=>some (.b b)
     | none=>some (.nd n)
 | none=>none
def gZ:AV->Option Nat
 | .nd n=>some n
 | .i k n=>dW (.ci k n)
 | .b x=>dW (.cb x)
 | .s x=>dW (.cs x)
 | .dL=>dW (.ml [])
 | _=>none
def nodesOf:List AV->Option (List Nat)
 | []=>some []
 | a::l=>match gZ a,nodesOf l with
   | some n,some r=>some (n::r)
   | _,_=>none
def AZ:AV->Option Nat
 | .agg l=>match nodesOf l with
   | some ns=>dW (.mk ns)
   | none=>none
 | _=>none
def rU:Nat->Nat->Nat->Bool
 | 0,m,n=>Nat.beq m n
 | f+1,m,n=>Nat.beq m n || match fV.nodes[m]? with
   | some (.upd _ _ a _ _)=>rU f a n
   | some (.same a _)=>rU f a n
   | _=>false
def elemsOf (agg:Bool) (size:Nat):Nat->List AV->Option (List Nat)
 | 0,_=>some []
 | n+1,cs=>match (if agg then AZ (.agg (cs.take size)) else (cs.head?).bind gZ),elemsOf agg size n (cs.drop size) with
   | some a,some r=>some (a::r)
   | _,_=>none
def listOf (P:Program) (σ:ak) (e:TypeId):AV->Option Nat
 | .nd n=>some n
 | .dL=>dW (.ml [])
 | .sv id n=>match σ.get id with
   | some (.vec m et _)=>if Nat.beq e et&&rU 100 m n then some m else none
   | _=>none
 | .sl id off len _=>match σ.get id,sizeT P e,mD P e with
   | some (.cells c et _ _),some size,some agg=>if Nat.beq e et&&((agg&&Nat.blt 0 size) || Nat.beq size 1) then match takeN c off (len * size) with
     | some cs=>match elemsOf agg size len cs with
       | some ns=>dW (.ml ns)
       | none=>none
     | none=>none
     else none
   | _,_,_=>none
 | _=>none
def ajQ (a:AV):Bool:=
 match a with
 | .nd _ | .rx _ _ | .sv _ _ | .pv _ _ _ | .pd _ _=>true
 | _=>false
def WW (P:Program) (t:TypeId):Option Nat:=
 match P.underlying t with
 | some (.int _)=>some 0
 | some .string=>some 1
 | some .bool=>some 2
 | _=>none
def Ht (P:Program):List Field->Nat->Option (List Nat)
 | [],_=>some []
 | f::fs,k=>if !(f.name == "_")&&Nat.beq f.offset k then match WW P f.type,Ht P fs (k+1) with
   | some a,some r=>some (a::r)
   | _,_=>none
   else none
def QF (P:Program) (op:BinOp) (t:TypeId) (a b:AV):Option AV:=
 match P.underlying t with
 | some (.int _) | some .string=>match gZ a,gZ b with
   | some x,some y=>jB (.bin op x y)
   | _,_=>none
 | some .bool=>match gZ a,gZ b with
   | some x,some y=>jB (.Bc op x y)
   | _,_=>none
 | some (.struct fs)=>if !(P.stoodInHeld t)&&!(P.eqGuardType P.depth t) then match Ht P fs.toList 0,AZ a,AZ b with
    | some ks,some x,some y=>jB (.Bd op ks x y)
    | _,_,_=>none
   else none
 | some (.pointer _)=>match op,a,b with
   | .eql,.rx _ _,.jq | .eql,.jq,.rx _ _=>some (.b false)
   | .neq,.rx _ _,.jq | .neq,.jq,.rx _ _=>some (.b true)
   | .eql,.pv _ _ _,.jq | .eql,.jq,.pv _ _ _=>some (.b false)
   | .neq,.pv _ _ _,.jq | .neq,.jq,.pv _ _ _=>some (.b true)
   | _,_,_=>none
 | _=>none
def Ib (op:UnOp) (a:AV):Option AV:=
 match a with
 | .nd n=>jB (.un op n)
 | _=>none
def QG (P:Program) (src dst:TypeId) (x:AV) (σ:ak):Option (AV×ak):=
 match P.underlying src,P.underlying dst,x with
 | some _,some (.int k),.nd n=>(jB (.conv k n)).map (·,σ)
 | some .string,some .string,.nd n=>(jB (.Ce n)).map (·,σ)
 | some .string,some (.slice e),.nd n=>
   match P.underlying e with
   | some (.int .u8)=>if e≠0/\sizeT P e=some 1 then match dW (.bytes n) with
      | some m=>some (.sv σ.next m,σ.new (.vec m e false))
      | none=>none
     else none
   | _=>none
 | some (.slice e),some .string,x=>
   match P.underlying e with
   | some (.int .u8)=>match listOf P σ e x with
      | some m=>(jB (.str m)).map (·,σ)
      | none=>none
   | _=>none
 | _,_,_=>none
def XM (P:Program) (t:TypeId) (x:AV):Option AV:=
 match P.underlying t,x with
 | some .string,.nd n=>jB (.slen n)
 | some (.slice _),.nd n=>jB (.len n)
 | some (.slice _),.sv _ n=>jB (.len n)
 | _,_=>none
def dB (a:Option AV):Option AV:=
 match a with
 | some (.nd n)=>match TA n with
   | some b=>some (.b b)
   | none=>none
 | x=>x
def Eb (i:Nat):Nat->Nat->Option AV
 | 0,_=>none
 | c+1,j=>match jB (.xu i j) with
   | some (.b true)=>some (.i .i64 j)
   | some (.b false)=>Eb i c (j+1)
   | some (.nd m)=>match dB (some (.nd m)) with
     | some (.b true)=>some (.i .i64 j)
     | some (.b false)=>Eb i c (j+1)
     | _=>none
   | _=>none
def QI (P:Program) (t:TypeId) (x ix:AV):Option AV:=
 match P.underlying t with
 | some .string=>match gZ x,gZ ix with
   | some n,some i=>jB (.Ci n i)
   | _,_=>none
 | some (.array len _)=>match gZ ix with
   | some i=>match Eb i len 0 with
     | some k=>AX P t x k
     | none=>none
   | none=>none
 | _=>none
def Ja:Option AV->Option Nat
 | none=>dW (.ci .i64 0)
 | some a=>gZ a
def NG (x:Nd):Option AV->Option Nat
 | none=>dW x
 | some a=>gZ a
def Lp (P:Program) (t:TypeId) (x:AV) (lo hi:Option AV):Option AV:=
 match P.underlying t with
 | some .string=>match gZ x with
   | some n=>match Ja lo,NG (.slen n) hi with
     | some l,some h=>jB (.Cj n l h)
     | _,_=>none
   | none=>none
 | some (.slice e)=>match x,sizeT P e with
   | .nd n,some size=>match Ja lo,NG (.len n) hi with
     | some l,some h=>jB (.zX size n l h)
     | _,_=>none
   | _,_=>none
 | _=>none
def QO (P:Program) (t:TypeId) (σ:ak) (x:AV) (lo hi:Option AV):Option (AV×ak):=
 match P.underlying t,x with
 | some (.slice e),.sv id n=>match σ.get id,sizeT P e with
   | some (.vec m et f),some size=>if Nat.beq e et&&rU 100 m n&&Nat.ble σ.lock id then
      match lo with
      | none=>match Ja none,NG (.len m) hi with
        | some z,some h=>(dW (.zX size m z h)).map λk=>(.sv id k,σ.put id (.vec k et f))
        | _,_=>none
      | some _=>(Lp P t (.nd m) lo hi).map (·,σ.kill id)
     else none
   | _,_=>none
 | _,_=>none
def QH (P:Program) (t:TypeId) (x:AV) (f:Nat):Option AV:=
 match P.underlying t with
 | some (.struct fields)=>
   match fields[f]? with
   | some fd=>match sizeT P fd.type with
     | some n=>if n=0 then none else match x with
       | .rx m off=>some (.rx m (off+fd.offset))
       | .pv id m off=>some (.pv id m (off+fd.offset))
       | _=>none
     | none=>none
   | none=>none
 | _=>none
def QJ (P:Program) (σ:ak) (t:TypeId) (x ix:AV):Option AV:=
 match P.underlying t with
 | some (.slice e)=>match sizeT P e,gZ ix with
   | some size,some i=>match x with
     | .nd n=>(dW (.at size n i)).map λm=>.rx m 0
     | .sv id n=>match σ.get id with
       | some (.vec _ et _)=>if Nat.beq e et then (dW (.idx n i)).map λm=>.pv id m 0 else none
       | _=>none
     | .sl _ _ len _=>match Eb i len 0 with
       | some k=>vM P t x k
       | none=>none
     | _=>none
   | _,_=>none
 | some (.array len _)=>match gZ ix with
   | some i=>match Eb i len 0 with
     | some k=>vM P t x k
     | none=>none
   | none=>none
 | _=>none
def Dx (m:Nat):Nat->Nat->Option (List AV)
 | _,0=>some []
 | off,n+1=>match jB (.cell off m),Dx m (off+1) n with
   | some a,some r=>some (a::r)
   | _,_=>none
def Lm (P:Program) (t:TypeId) (m off:Nat):Option AV:=
 match mD P t with
 | some true=>match sizeT P t with
   | some n=>(Dx m off n).map .agg
   | none=>none
 | some false=>jB (.cell off m)
 | none=>none
def QK (P:Program) (t:TypeId) (σ:ak) (a:AV):Option AV:=
 match a with
 | .rx m off=>Lm P t m off
 | .pv id i off=>match σ.get id with
   | some (.vec m et _)=>match sizeT P et with
     | some size=>match dW (.at size m i) with
       | some x=>Lm P t x off
       | none=>none
     | none=>none
   | _=>none
 | _=>none
def JR (P:Program) (kt:TypeId) (k:AV):Option (Nat×Option IntKind):=
 match P.underlying kt,gZ k with
 | some (.int kk),some n=>match dW (.ci kk 0) with
   | some z=>(dW (.bin .eql n z)).map λ_=>(n,some kk)
   | none=>none
 | some .string,some n=>match dW (.cs []) with
   | some z=>(dW (.bin .eql n z)).map λ_=>(n,none)
   | none=>none
 | _,_=>none
def U6 (n:Nat) (e:AV):Option Bool:=
 match gZ e with
 | some m=>match (jB (.bin .eql n m)) with
   | some (.b b)=>some b
   | some (.nd j)=>match dB (some (.nd j)) with
     | some (.b b)=>some b
     | _=>none
   | _=>none
 | none=>none
def Gh (n:Nat):List (AV×AV)->Nat->Option (Option (Nat×AV))
 | [],_=>some none
 | e::es,i=>match U6 n e.1 with
   | some true=>some (some (i,e.2))
   | some false=>Gh n es (i+1)
   | none=>none
def LJ (P:Program) (et:TypeId) (v:AV):Option (Nat×Option Nat):=
 match mD P et with
 | some true=>match AZ v,sizeT P et with
   | some n,some k=>if Nat.beq v.cells.length k then some (n,some k) else none
   | _,_=>none
 | some false=>(gZ v).map (·,none)
 | none=>none
def GK:Option IntKind->Option IntKind->Bool
 | none,none=>true
 | some a,some b=>Nat.beq (kc a) (kc b)
 | _,_=>false
def Lr:Option Nat->Option Nat->Bool
 | none,none=>true
 | some a,some b=>Nat.beq a b
 | _,_=>false
def LQ (P:Program) (et:TypeId):Option AV:=
 match P.info? et with
 | some i=>match i.zero with
   | some z=>kC 4 z
   | none=>none
 | none=>none
def QL (P:Program) (t:TypeId) (m k:AV) (ok:Bool) (σ:ak):Option AV:=
 match P.underlying t,m with
 | some (.map kt et),.mp id=>
   match JR P kt k,σ.get id with
   | some (n,_),some (.map es)=>match Gh n es 0 with
     | some (some (_,v))=>some (if ok then .dM [v,.b true] else v)
     | some none=>(LQ P et).map λz=>if ok then .dM [z,.b false] else z
     | none=>none
   | some (n,kk),some (.pmap es)=>
     if GK kk none then match Gh n (es.map λe=>(AV.s e.1,e.2)) 0 with
      | some (some (_,v))=>some (if ok then .dM [v,.b true] else v)
      | some none=>(LQ P et).map λz=>if ok then .dM [z,.b false] else z
      | none=>none
     else none
   | some (n,kk),some (.smap j zU sz)=>
     if GK kk zU then match (LQ P et).bind (LJ P et) with
      | some (z,sz')=>if Lr sz sz' then match (dW (.BR z j n)).bind λg=>Lm P et g 0 with
        | some v=>if ok then match jB (.BU j n) with
           | some b=>some (.dM [v,b])
           | none=>none
          else some v
        | none=>none
        else none
      | none=>none
     else none
   | _,_=>none
 | _,_=>none
def QN (P:Program) (t:TypeId) (m k v:AV) (σ:ak):Option ak:=
 match P.underlying t,m with
 | some (.map kt et),.mp id=>
   if Nat.ble σ.lock id then
    match JR P kt k,LJ P et v,σ.get id with
    | some (n,kk),some (u,sz),some (.map [])=>match dW (.ml []) with
      | some j=>(dW (.yF j n u)).map λj'=>σ.put id (.smap j' kk sz)
      | none=>none
    | some (n,kk),some (u,sz),some (.smap j zU sz')=>
      if GK kk zU&&Lr sz sz' then (dW (.yF j n u)).map λj'=>σ.put id (.smap j' kk sz) else none
    | _,_,_=>none
   else none
 | _,_=>none
def mapArg (v:AV):Bool:=match v with
 | .nd n=>(match fV.nodes[n]? with
   | some (.len _)=>true
   | _=>false)
 | v=>(sJ v).isSome
def QS (P:Program) (t:TypeId) (σ:ak) (a v:AV):Option ak:=
 match a with
 | .pv id i off=>match σ.get id with
   | some (.vec m et f)=>
     if σ.lock<=id/\sizeT P t=some v.cells.length then
      match sizeT P et,nodesOf v.cells with
      | some size,some vs=>match dW (.upd size off m i vs) with
        | some m'=>some (σ.put id (.vec m' et f))
        | none=>none
      | _,_=>none
     else none
   | _=>none
 | _=>none
def XK (P:Program) (argTypes:Array TypeId) (s x:AV) (σ:ak):Option (AV×ak):=
 match argTypes.toList with
 | [t,t1]=>
   match sV P t with
   | some (e,size,bytes,_)=>
     if size=0 then none else
     match (match P.underlying t1 with
      | some .string=>if size=1 then match gZ x with
         | some n=>dW (.bytes n)
         | none=>none
        else none
      | some (.slice _)=>listOf P σ e x
      | _=>none) with
     | none=>none
     | some b=>
       match s with
       | .dL=>match dW (.ml []) with
         | some a=>(dW (.app size bytes a b)).map λm=>(.sv σ.next m,σ.new (.vec m e true))
         | none=>none
       | .sv id n=>match σ.get id with
         | some (.vec a et f)=>if Nat.beq et e&&rU 100 a n&&Nat.ble σ.lock id then (dW (.app size bytes a b)).map λm=>(.sv σ.next m,(σ.kill id).new (.vec m e f)) else none
         | _=>none
       | .sl id 0 0 (some 0)=>match σ.get id with
         | some (.cells [] et true false)=>if Nat.beq et e&&Nat.ble σ.lock id then match dW (.ml []) with
           | some a=>(dW (.app size bytes a b)).map λm=>(.sv σ.next m,(σ.kill id).new (.vec m e false))
           | none=>none
           else none
         | _=>none
       | .sl id 0 len none=>match σ.get id with
         | some (.cells c et true true)=>if Nat.beq et e&&Nat.ble σ.lock id&&Nat.beq c.length (len * size) then match listOf P σ e (.sl id 0 len none) with
           | some a=>(dW (.app size bytes a b)).map λm=>(.sv σ.next m,(σ.kill id).new (.vec m e false))
           | none=>none
           else none
         | _=>none
       | _=>none
   | none=>none
 | _=>none
def Pq (P:Program) (e:TypeId) (size len:Nat) (cs:List AV):Option Nat:=
 if cs.any ajQ then
  match mD P e with
  | some agg=>if ((agg&&Nat.blt 0 size) || Nat.beq size 1)&&Nat.blt 0 len&&Nat.beq cs.length (len * size) then match elemsOf agg size len cs with
    | some ns=>dW (.ml ns)
    | none=>none
    else none
  | none=>none
 else none
def Px (P:Program) (σ:ak) (e:TypeId) (size len:Nat) (cs:List AV):Option AV×ak:=
 match Pq P e size len cs with
 | some m=>(some (.sv σ.next m),σ.new (.vec m e false))
 | none=>(some (.sl σ.next 0 len (some len)),σ.new (.cells cs e true false))
def QM (P:Program) (t:TypeId) (len cap:AV) (σ:ak):Option (AV×ak):=
 match P.underlying t with
 | some (.slice e')=>match sV P t,mD P e' with
   | some (e,size,bytes,z),some agg=>
     if size=0 then none else
     match (if agg then AZ (.agg z) else (z.head?).bind gZ),gZ len,gZ cap with
     | some zn,some l,some c=>(dW (.rep size bytes zn l c)).map λm=>(.sv σ.next m,σ.new (.vec m e false))
     | _,_,_=>none
   | _,_=>none
 | _=>none
def EK (P:Program) (b:Builtin) (argTypes:Array TypeId) (args:List AV) (σ:ak):Option (Option AV×ak):=
 match b,args with
 | .len,[x]=>match argTypes[0]? with
   | some t=>(XM P t x).map λv=>(some v,σ)
   | none=>none
 | .append,[s,x]=>(XK P argTypes s x σ).map λr=>(some r.1,r.2)
 | .min,[x,y]=>match gZ x,gZ y with
   | some m,some n=>(jB (.mm false m n)).map λv=>(some v,σ)
   | _,_=>none
 | .max,[x,y]=>match gZ x,gZ y with
   | some m,some n=>(jB (.mm true m n)).map λv=>(some v,σ)
   | _,_=>none
 | .unsafeSliceData,[.sv id n]=>match σ.get id with
   | some (.vec m _ true)=>if rU 100 m n then some (some (.pd id n),σ) else none
   | _=>none
 | .unsafeString,[.pd id n,.nd k]=>
   match argTypes.toList with
   | [t,_]=>
     match P.underlying t,σ.get id with
     | some (.pointer e),some (.vec m et _)=>
       if et=e/\e≠0/\P.cellsOf e=1/\σ.lock<=id then
        match fV.nodes[k]? with
        | some (.len n')=>if rU 100 m n&&rU 100 m n' then (jB (.str m)).map λv=>(some v,σ.kill id) else none
        | _=>none
       else none
     | _,_=>none
   | _=>none
 | _,_=>none
def Nc (P:Program) (name:String) (σ:ak):AV->Option (FuncId×AV)
 | .dS t v=>
   match P.info? t,P.underlying t with
   | some i,some d=>match i.methods.find? (·.name==name) with
     | some m=>match m.path.toList,m.func with
       | [],some (f,ptr)=>match d,ptr with
         | .pointer _,true=>some (f,v)
         | .pointer e,false=>match v with
           | .p id off=>(sK P e σ (.p id off)).map λx=>(f,x)
           | _=>none
         | _,true=>none
         | _,false=>some (f,v)
       | _,_=>none
     | none=>none
   | _,_=>none
 | _=>none
abbrev Caller:=FuncId->List AV->ak->Option (AV×ak)
def cZ (σ:ak):Option AV->Option (Option AV×ak):=Option.map λv=>(some v,σ)
def pX:Option (AV×ak)->Option (Option AV×ak):=Option.map λ(v,σ)=>(some v,σ)
def ED:Option ak->Option (Option AV×ak):=Option.map λσ=>(none,σ)
def Dc (P:Program) (b:Builtin) (argTypes:Array TypeId) (args:List AV) (σ:ak):Option (Option AV×ak):=
 match b,args with
 | .len,[x]=>match argTypes[0]? with
   | some t=>cZ σ (MZ P σ t x)
   | none=>none
 | .append,[s,x]=>pX (RZ P argTypes s x σ)
 | .copy,[d,x]=>pX (Sj P argTypes d x σ)
 | .clear,[x]=>match argTypes[0]? with
   | some t=>pX (Si P t x σ)
   | none=>none
 | .cap,[x]=>match argTypes[0]? with
   | some t=>match P.underlying t,x with
     | some (.slice _),.dL=>cZ σ (some (.i .i64 0))
     | some (.slice _),.sl _ _ _ (some c)=>cZ σ (some (.i .i64 c))
     | _,_=>none
   | none=>none
 | .unsafeSliceData,[.dL]=>cZ σ (some .jq)
 | .unsafeSliceData,[.sl id off n cap]=>if n=0/\(cap=none\/cap=some 0) then none else cZ σ (some (.p id off))
 | .unsafeString,[x,.i .i64 n]=>
   match argTypes.toList with
   | [t,_]=>
     if n=0 then (match x with
      | .jq=>cZ σ (some (.s []))
      | .p _ _=>cZ σ (some (.s []))
      | _=>none)
     else match x with
     | .p id off=>match P.underlying t,σ.get id with
       | some (.pointer e),some (.cells c et true opn)=>
         if et=e/\e≠0/\P.cellsOf e=1/\0 < n/\n < 2 ^ 62/\σ.lock<=id then
          match takeN c off n.toNat with
          | some r=>match bytesOf r with
            | some b=>some (some (.s b),σ.put id (.cells c et false opn))
            | none=>none
          | none=>none
         else none
       | _,_=>none
     | _=>none
   | _=>none
 | .min,[x,y]=>match uj x,uj y with
   | some u,some v=>cZ σ ((nM P (Builtin.min_ #[] 0 #[u,v])).bind (kC 4))
   | _,_=>none
 | .max,[x,y]=>match uj x,uj y with
   | some u,some v=>cZ σ ((nM P (Builtin.max_ #[] 0 #[u,v])).bind (kC 4))
   | _,_=>none
 | .min,[x,y,z]=>match uj x,uj y,uj z with
   | some u,some v,some t=>cZ σ ((nM P (Builtin.min_ #[] 0 #[u,v,t])).bind (kC 4))
   | _,_,_=>none
 | _,_=>none
def XL (b:Builtin) (args:List AV):Bool:=
 match b,args with
 | .append,.dL::_=>!(fV.nodes.isEmpty)
 | _,_=>false
def jr {α:Type} (a:Option α) (b:Unit->Option α):Option α:=
 match a with
 | some x=>some x
 | none=>b ()
theorem rM {α:Type} {a:Option α} {b:Unit->Option α} {x:α} (h:jr a b=some x):a=some x\/b ()=some x:=by
 unfold jr at h;split at h
 ·exact .inl h
 ·exact .inr h
def oz (P:Program) (call:Caller) (o:Oper) (ev:Operand->Option AV) (σ:ak):Option (Option AV×ak):=
 match o.op with
 | .move x | .assign x=>cZ σ (ev x)
 | .pick c a b=>match dB (ev c) with
   | some (.b t)=>cZ σ (if t then ev a else ev b)
   | _=>none
 | .alloc t=>(wE P t).map λz=>(some (.p σ.next 0),σ.new (.cells z t true false))
 | .box t x=>(ev x).map λv=>(some (.p σ.next 0),σ.new (.cells v.cells t true false))
 | .build t parts=>match BA ev parts.toList with
   | some ps=>cZ σ (MS P t ps)
   | none=>none
 | .buildSlice t len parts=>
   match sV P t,BA ev parts.toList with
   | some (e,size,_,z),some ps=>
     if len * size > 2 ^ 24 then none else
     match xU (λi=>some (i * size,size)) (if len * size=0 then [] else iP len z) ps with
     | some cs=>some (Px P σ e size len cs)
     | none=>none
   | _,_=>none
 | .load t a=>match ev a with
   | some a=>cZ σ (jr (sK P t σ a) λ_=>QK P t σ a)
   | none=>none
 | .store t a x=>match ev a,ev x with
   | some a,some v=>ED (jr (AY P t σ a v) λ_=>QS P t σ a v)
   | _,_=>none
 | .nilCheck x=>match ev x with
   | some (.p id off)=>cZ σ (some (.p id off))
   | some (.rp a off)=>cZ σ (some (.rp a off))
   | some (.rx m off)=>cZ σ (some (.rx m off))
   | some (.pv id m off)=>cZ σ (some (.pv id m off))
   | some (.fn f fs cs)=>cZ σ (some (.fn f fs cs))
   | _=>none
 | .binOp op t x y _=>match ev x,ev y with
   | some a,some b=>cZ σ (jr (qy P op t x y a b) λ_=>QF P op t a b)
   | _,_=>none
 | .unOp op _ x=>match ev x with
   | some a=>match uj a with
     | some u=>cZ σ ((nM P (Op.unary op u)).bind (kC 4))
     | none=>cZ σ (Ib op a)
   | none=>none
 | .convert src dst x=>match ev x with
   | some a=>pX (jr (vK P src dst a σ) λ_=>QG P src dst a σ)
   | none=>none
 | .makeInterface t x=>match ev x,D7 P t with
   | some a,some false=>cZ σ (some (.dS t a))
   | _,_=>none
 | .makeFunc (.func f) first caps=>match yx ev first.toList,yx ev caps.toList with
    | some fs,some cs=>cZ σ (some (.fn f fs cs))
    | _,_=>none
 | .makeMap t r=>match r with
   | none=>some (some (.mp σ.next),σ.new (.map []))
   | some h=>match ev h,P.underlying t with
     | some v,some (.map _ _)=>if mapArg v then some (some (.mp σ.next),σ.new (.map [])) else none
     | _,_=>none
 | .makeSlice t l c=>match ev l,ev c with
   | some l,some c=>pX (jr (Nb P t l c σ) λ_=>QM P t l c σ)
   | _,_=>none
 | .slice t x lo hi none=>match ev x,Ei ev lo,Ei ev hi with
   | some v,some lo,some hi=>jr (cZ σ (jr (xY P t σ v lo hi) λ_=>Lp P t v lo hi)) λ_=>pX (QO P t σ v lo hi)
   | _,_,_=>none
 | .fieldAddr t x f=>match ev x with
   | some a=>cZ σ (jr (MX P t a f) λ_=>QH P t a f)
   | none=>none
 | .field t x f=>match ev x with
   | some a=>cZ σ (MW P t a f)
   | none=>none
 | .indexAddr t x ix=>match ev x,ev ix with
   | some a,some k=>cZ σ (jr (vM P t a k) λ_=>QJ P σ t a k)
   | _,_=>none
 | .index t x ix=>match ev x,ev ix with
   | some a,some k=>cZ σ (jr (AX P t a k) λ_=>QI P t a k)
   | _,_=>none
 | .lookup t m k ok=>match ev m,ev k with
   | some m,some k=>cZ σ (jr (Na P t m k ok σ) λ_=>QL P t m k ok σ)
   | _,_=>none
 | .mapUpdate t m k v | .insert t m k v=>match ev m,ev k,ev v with
   | some m,some k,some v=>ED (jr (FD P t m k v σ) λ_=>QN P t m k v σ)
   | _,_,_=>none
 | .range t x=>match P.underlying t,ev x with
   | some .string,some (.s s)=>some (some (.p σ.next 0),σ.new (.iter s 0))
   | some (.map _ _),some .nI=>some (some (.p σ.next 0),σ.new (.iterM none))
   | some (.map _ _),some (.mp id)=>match σ.get id with
     | some (.map _)=>some (some (.p σ.next 0),σ.new (.iterM (some id)))
     | _=>none
   | _,_=>none
 | .next it true=>match ev it with
   | some a=>pX (Nh a σ)
   | none=>none
 | .next it false=>match ev it with
   | some (.p id 0)=>match σ.get id with
     | some (.iterM none)=>some (some (.dM [.b false]),σ)
     | some (.iterM (some m))=>match σ.get m with
       | some (.map [])=>some (some (.dM [.b false]),σ)
       | _=>none
     | _=>none
   | _=>none
 | .typeAssert x _ t ok=>match ev x with
   | some a=>cZ σ (Np P a t ok)
   | none=>none
 | .extract x k=>match ev x with
   | some (.dM l)=>cZ σ l[k]?
   | _=>none
 | .call c=>match yx ev c.args.toList with
   | some args=>
     match c.callee with
     | .builtin b=>bif XL b args then jr (EK P b c.argTypes args σ) λ_=>Dc P b c.argTypes args σ else jr (Dc P b c.argTypes args σ) λ_=>EK P b c.argTypes args σ
     | .value f=>match ev f with
       | some (.fn f fi caps)=>pX (call f (fi++args++caps) σ)
       | _=>none
     | .invoke r name=>match (ev r).bind (Nc P name σ) with
       | some (f,x)=>pX (call f (x::args) σ)
       | none=>none
   | none=>none
 | _=>none
def TW (op:BinOp) (k:IntKind) (a b:Int):Option AV:=
 match op with
 | .add=>some (.i k (k.wrap (a+b)))
 | .sub=>some (.i k (k.wrap (a - b)))
 | .mul=>some (.i k (k.wrap (a * b)))
 | .eql=>some (.b (a==b))
 | .neq=>some (.b (a != b))
 | .lss=>some (.b (decide (a < b)))
 | .leq=>some (.b (decide (a<=b)))
 | .gtr=>some (.b (decide (a > b)))
 | .geq=>some (.b (decide (a>=b)))
 | _=>none
def Ub (op:BinOp) (a b:List UInt8):Option AV:=
 match op with
 | .add=>if a.length+b.length<=9223372036854775807 then some (.s (a++b)) else none
 | .eql=>some (.b (a==b))
 | .neq=>some (.b (!(a==b)))
 | .lss=>some (.b (Op.bytesLess a b))
 | .leq=>some (.b (Op.bytesLess a b || a==b))
 | .gtr=>some (.b (!(Op.bytesLess a b || a==b)))
 | .geq=>some (.b (!(Op.bytesLess a b)))
 | _=>none
def TV (P:Program) (op:BinOp) (t:TypeId) (x y:Operand) (a b:AV):Option AV:=
 match a with
 | .i k m=>match b with
   | .i k' n=>if k=k' then match TW op k m n with
      | some r=>some r
      | none=>qy P op t x y a b
     else qy P op t x y a b
   | _=>qy P op t x y a b
 | .s u=>match b with
   | .s v=>match Ub op u v with
     | some r=>some r
     | none=>qy P op t x y a b
   | _=>qy P op t x y a b
 | _=>qy P op t x y a b
theorem toList_mk (l:List UInt8):(⟨⟨l⟩⟩:ByteArray).toList=l:=by rw [ByteArray.toList_eq]
theorem ahJ {P:Program} {op:BinOp} {t:TypeId} {x y:Operand} {k:IntKind} {m n:Int} {r:AV} (h:TW op k m n=some r):qy P op t x y (.i k m) (.i k n)=some r:=by
 have key:∀v:Value,(do eqGuard op t x y (.int k m) (.int k n);binOp op t (.int k m) (.int k n):Sem Value)=.pure v->kC 4 v=some r->qy P op t x y (.i k m) (.i k n)=some r:=by
  intro v hv hr;have:qy P op t x y (.i k m) (.i k n)=(nM P (do eqGuard op t x y (.int k m) (.int k n);binOp op t (.int k m) (.int k n):Sem Value)).bind (kC 4):=by
   cases op<;>rfl
  rw [this,hv];exact hr
 cases op<;>simp only [TW,reduceCtorEq,aT] at h<;>subst h
 all_goals refine key _ (by simp only [eqGuard,binOp,ne_eq,not_true_eq_false,if_false,Op.intArith,Op.intCmp];rfl) rfl
theorem Y9 (a b:List UInt8):((⟨⟨a⟩⟩:ByteArray)++⟨⟨b⟩⟩)=⟨⟨a++b⟩⟩:=by
 apply ByteArray.ext;rw [ByteArray.data_append];simp
theorem ah7 {P:Program} {op:BinOp} {t:TypeId} {x y:Operand} {u v:List UInt8} {r:AV} (h:Ub op u v=some r):qy P op t x y (.s u) (.s v)=some r:=by
 have key:∀z:Value,(do eqGuard op t x y (.string ⟨⟨u⟩⟩) (.string ⟨⟨v⟩⟩);binOp op t (.string ⟨⟨u⟩⟩) (.string ⟨⟨v⟩⟩):Sem Value)=.pure z->kC 4 z=some r->qy P op t x y (.s u) (.s v)=some r:=by
  intro z hz hr;have:qy P op t x y (.s u) (.s v)=(nM P (do eqGuard op t x y (.string ⟨⟨u⟩⟩) (.string ⟨⟨v⟩⟩);binOp op t (.string ⟨⟨u⟩⟩) (.string ⟨⟨v⟩⟩):Sem Value)).bind (kC 4):=by
   cases op<;>rfl
  rw [this,hz];exact hr
 cases op<;>simp only [Ub,reduceCtorEq,aT] at h
 case add=>
  split at h
  ·next hb=>
   cases h;have:¬ (((⟨⟨u⟩⟩:ByteArray).size+(⟨⟨v⟩⟩:ByteArray).size:Nat):Int) > IntKind.i64.max:=by
    show ¬ ((u.length+v.length:Nat):Int) > 9223372036854775807
    omega
   exact key (.string ⟨⟨u++v⟩⟩) (by simp only [eqGuard,binOp,Op.stringOp,ah this,Y9];rfl) rfl
  ·cases h
 all_goals subst h
 all_goals refine key _ (by simp only [eqGuard,binOp,Op.stringOp,toList_mk];rfl) rfl
theorem ahI (P:Program) (op:BinOp) (t:TypeId) (x y:Operand) (a b:AV):TV P op t x y a b=qy P op t x y a b:=by
 unfold TV;split
 ·split
  ·split
   ·next hk=>
    subst hk;split
    ·next r hr=>exact (ahJ hr).symm
    ·rfl
   ·rfl
  ·rfl
 ·split
  ·split
   ·next r hr=>exact (ah7 hr).symm
   ·rfl
  ·rfl
 ·rfl
def fUn (P:Program) (σ:ak) (op:UnOp) (a:AV):Option (Option AV×ak):=
 match op with
 | .not=>match a with
   | .b x=>some (some (.b (!x)),σ)
   | _=>match uj a with
     | some u=>cZ σ ((nM P (Op.unary op u)).bind (kC 4))
     | none=>cZ σ (Ib op a)
 | _=>match uj a with
   | some u=>cZ σ ((nM P (Op.unary op u)).bind (kC 4))
   | none=>cZ σ (Ib op a)
def aaH (_P:Program) (_call:Caller) (ev:Operand->Option AV) (σ:ak) (x:Operand):Option (Option AV×ak):=
 cZ σ (ev x)
def ahK (_P:Program) (_call:Caller) (ev:Operand->Option AV) (σ:ak) (c:Operand) (a:Operand) (b:Operand):Option (Option AV×ak):=
 match dB (ev c) with
  | some (.b t)=>cZ σ (if t then ev a else ev b)
  | _=>none
def ahS (P:Program) (_call:Caller) (_ev:Operand->Option AV) (σ:ak) (t:TypeId):Option (Option AV×ak):=
 (wE P t).map λz=>(some (.p σ.next 0),σ.new (.cells z t true false))
def ah1 (_P:Program) (_call:Caller) (ev:Operand->Option AV) (σ:ak) (t:TypeId) (x:Operand):Option (Option AV×ak):=
 (ev x).map λv=>(some (.p σ.next 0),σ.new (.cells v.cells t true false))
def ah2 (P:Program) (_call:Caller) (ev:Operand->Option AV) (σ:ak) (t:TypeId) (parts:Array (Nat×Operand)):Option (Option AV×ak):=
 match BA ev parts.toList with
  | some ps=>cZ σ (MS P t ps)
  | none=>none
def ah3 (P:Program) (_call:Caller) (ev:Operand->Option AV) (σ:ak) (t:TypeId) (len:Nat) (parts:Array (Nat×Operand)):Option (Option AV×ak):=
     match sV P t,BA ev parts.toList with
    | some (e,size,_,z),some ps=>
      if len * size > 2 ^ 24 then none else
      match xU (λi=>some (i * size,size)) (if len * size=0 then [] else iP len z) ps with
      | some cs=>some (Px P σ e size len cs)
      | none=>none
    | _,_=>none
def ah4 (P:Program) (_call:Caller) (ev:Operand->Option AV) (σ:ak) (t:TypeId) (a:Operand):Option (Option AV×ak):=
 match ev a with
  | some a=>cZ σ (jr (sK P t σ a) λ_=>QK P t σ a)
  | none=>none
def ah5 (P:Program) (_call:Caller) (ev:Operand->Option AV) (σ:ak) (t:TypeId) (a:Operand) (x:Operand):Option (Option AV×ak):=
 match ev a,ev x with
  | some a,some v=>ED (jr (AY P t σ a v) λ_=>QS P t σ a v)
  | _,_=>none
def Oq (_P:Program) (_call:Caller) (ev:Operand->Option AV) (σ:ak) (x:Operand):Option (Option AV×ak):=
 match ev x with
  | some (.p id off)=>cZ σ (some (.p id off))
  | some (.rp a off)=>cZ σ (some (.rp a off))
  | some (.rx m off)=>cZ σ (some (.rx m off))
  | some (.pv id m off)=>cZ σ (some (.pv id m off))
  | some (.fn f fs cs)=>cZ σ (some (.fn f fs cs))
  | _=>none
def Ua (P:Program) (_call:Caller) (ev:Operand->Option AV) (σ:ak) (op:BinOp) (t:TypeId) (x:Operand) (y:Operand):Option (Option AV×ak):=
 match ev x,ev y with
  | some a,some b=>cZ σ (jr (TV P op t x y a b) λ_=>QF P op t a b)
  | _,_=>none
def TY (P:Program) (_call:Caller) (ev:Operand->Option AV) (σ:ak) (op:UnOp) (x:Operand):Option (Option AV×ak):=
 match ev x with
  | some a=>fUn P σ op a
  | none=>none
def ahL (P:Program) (_call:Caller) (ev:Operand->Option AV) (σ:ak) (src:TypeId) (dst:TypeId) (x:Operand):Option (Option AV×ak):=
 match ev x with
  | some a=>pX (jr (vK P src dst a σ) λ_=>QG P src dst a σ)
  | none=>none
def ahM (P:Program) (_call:Caller) (ev:Operand->Option AV) (σ:ak) (t:TypeId) (x:Operand):Option (Option AV×ak):=
 match ev x,D7 P t with
  | some a,some false=>cZ σ (some (.dS t a))
  | _,_=>none
def ahN (_P:Program) (_call:Caller) (ev:Operand->Option AV) (σ:ak) (f:FuncId) (first:Array Operand) (caps:Array Operand):Option (Option AV×ak):=
 match yx ev first.toList,yx ev caps.toList with
  | some fs,some cs=>cZ σ (some (.fn f fs cs))
  | _,_=>none
def aaI (P:Program) (_call:Caller) (ev:Operand->Option AV) (σ:ak) (t:TypeId) (r:Option Operand):Option (Option AV×ak):=
 match r with
  | none=>some (some (.mp σ.next),σ.new (.map []))
  | some h=>match ev h,P.underlying t with
    | some v,some (.map _ _)=>if mapArg v then some (some (.mp σ.next),σ.new (.map [])) else none
    | _,_=>none
def ahO (P:Program) (_call:Caller) (ev:Operand->Option AV) (σ:ak) (t:TypeId) (l:Operand) (c:Operand):Option (Option AV×ak):=
 match ev l,ev c with
  | some l,some c=>pX (jr (Nb P t l c σ) λ_=>QM P t l c σ)
  | _,_=>none
def ahP (P:Program) (_call:Caller) (ev:Operand->Option AV) (σ:ak) (t:TypeId) (x:Operand) (lo:Option Operand) (hi:Option Operand):Option (Option AV×ak):=
 match ev x,Ei ev lo,Ei ev hi with
  | some v,some lo,some hi=>jr (cZ σ (jr (xY P t σ v lo hi) λ_=>Lp P t v lo hi)) λ_=>pX (QO P t σ v lo hi)
  | _,_,_=>none
def Om (P:Program) (_call:Caller) (ev:Operand->Option AV) (σ:ak) (t:TypeId) (x:Operand) (f:Nat):Option (Option AV×ak):=
 match ev x with
  | some a=>cZ σ (jr (MX P t a f) λ_=>QH P t a f)
  | none=>none
def ahQ (P:Program) (_call:Caller) (ev:Operand->Option AV) (σ:ak) (t:TypeId) (x:Operand) (f:Nat):Option (Option AV×ak):=
 match ev x with
  | some a=>cZ σ (MW P t a f)
  | none=>none
def ahR (P:Program) (_call:Caller) (ev:Operand->Option AV) (σ:ak) (t:TypeId) (x:Operand) (ix:Operand):Option (Option AV×ak):=
 match ev x,ev ix with
  | some a,some k=>cZ σ (jr (vM P t a k) λ_=>QJ P σ t a k)
  | _,_=>none
def ahT (P:Program) (_call:Caller) (ev:Operand->Option AV) (σ:ak) (t:TypeId) (x:Operand) (ix:Operand):Option (Option AV×ak):=
 match ev x,ev ix with
  | some a,some k=>cZ σ (jr (AX P t a k) λ_=>QI P t a k)
  | _,_=>none
def ahU (P:Program) (_call:Caller) (ev:Operand->Option AV) (σ:ak) (t:TypeId) (m:Operand) (k:Operand) (ok:Bool):Option (Option AV×ak):=
 match ev m,ev k with
  | some m,some k=>cZ σ (jr (Na P t m k ok σ) λ_=>QL P t m k ok σ)
  | _,_=>none
def Oo (P:Program) (_call:Caller) (ev:Operand->Option AV) (σ:ak) (t:TypeId) (m:Operand) (k:Operand) (v:Operand):Option (Option AV×ak):=
 match ev m,ev k,ev v with
  | some m,some k,some v=>ED (jr (FD P t m k v σ) λ_=>QN P t m k v σ)
  | _,_,_=>none
def ahV (P:Program) (_call:Caller) (ev:Operand->Option AV) (σ:ak) (t:TypeId) (x:Operand):Option (Option AV×ak):=
 match P.underlying t,ev x with
  | some .string,some (.s s)=>some (some (.p σ.next 0),σ.new (.iter s 0))
  | some (.map _ _),some .nI=>some (some (.p σ.next 0),σ.new (.iterM none))
  | some (.map _ _),some (.mp id)=>match σ.get id with
    | some (.map _)=>some (some (.p σ.next 0),σ.new (.iterM (some id)))
    | _=>none
  | _,_=>none
def ahW (_P:Program) (_call:Caller) (ev:Operand->Option AV) (σ:ak) (it:Operand):Option (Option AV×ak):=
 match ev it with
  | some a=>pX (Nh a σ)
  | none=>none
def ahX (_P:Program) (_call:Caller) (ev:Operand->Option AV) (σ:ak) (it:Operand):Option (Option AV×ak):=
 match ev it with
  | some (.p id 0)=>match σ.get id with
    | some (.iterM none)=>some (some (.dM [.b false]),σ)
    | some (.iterM (some m))=>match σ.get m with
      | some (.map [])=>some (some (.dM [.b false]),σ)
      | _=>none
    | _=>none
  | _=>none
def ahY (P:Program) (_call:Caller) (ev:Operand->Option AV) (σ:ak) (x:Operand) (t:TypeId) (ok:Bool):Option (Option AV×ak):=
 match ev x with
  | some a=>cZ σ (Np P a t ok)
  | none=>none
def ahZ (_P:Program) (_call:Caller) (ev:Operand->Option AV) (σ:ak) (x:Operand) (k:Nat):Option (Option AV×ak):=
 match ev x with
  | some (.dM l)=>cZ σ l[k]?
  | _=>none
def ah0 (P:Program) (call:Caller) (ev:Operand->Option AV) (σ:ak) (c:Call):Option (Option AV×ak):=
 match yx ev c.args.toList with
  | some args=>
    match c.callee with
    | .builtin b=>bif XL b args then jr (EK P b c.argTypes args σ) λ_=>Dc P b c.argTypes args σ else jr (Dc P b c.argTypes args σ) λ_=>EK P b c.argTypes args σ
    | .value f=>match ev f with
      | some (.fn f fi caps)=>pX (call f (fi++args++caps) σ)
      | _=>none
    | .invoke r name=>match (ev r).bind (Nc P name σ) with
      | some (f,x)=>pX (call f (x::args) σ)
      | none=>none
  | none=>none
structure YP where
 f:Program->Caller->(Operand->Option AV)->ak->Option (Option AV×ak)
def opF (o:Op):YP:=
 Op.casesOn (motive:=λ_=>YP) o
  (λx=>⟨λP call ev σ=>aaH P call ev σ x⟩)
  (λx=>⟨λP call ev σ=>aaH P call ev σ x⟩)
  (λc a b=>⟨λP call ev σ=>ahK P call ev σ c a b⟩)
  (λt=>⟨λP call ev σ=>ahS P call ev σ t⟩)
  (λt x=>⟨λP call ev σ=>ah1 P call ev σ t x⟩)
  (λt parts=>⟨λP call ev σ=>ah2 P call ev σ t parts⟩)
  (λt len parts=>⟨λP call ev σ=>ah3 P call ev σ t len parts⟩)
  (λt m k v=>⟨λP call ev σ=>Oo P call ev σ t m k v⟩)
  (λt a=>⟨λP call ev σ=>ah4 P call ev σ t a⟩)
  (λt a x=>⟨λP call ev σ=>ah5 P call ev σ t a x⟩)
  (λ_=>⟨λ_P _call _ev _σ=>none⟩)
  (λ_=>⟨λ_P _call _ev _σ=>none⟩)
  (λx=>⟨λP call ev σ=>Oq P call ev σ x⟩)
  (λop t x y _=>⟨λP call ev σ=>Ua P call ev σ op t x y⟩)
  (λop _ x=>⟨λP call ev σ=>TY P call ev σ op x⟩)
  (λsrc dst x=>⟨λP call ev σ=>ahL P call ev σ src dst x⟩)
  (λ_ _=>⟨λ_P _call _ev _σ=>none⟩)
  (λt x=>⟨λP call ev σ=>ahM P call ev σ t x⟩)
  (λfn first caps=>⟨λP call ev σ=>match fn with | .func f=>ahN P call ev σ f first caps | _=>none⟩)
  (λt r=>⟨λP call ev σ=>aaI P call ev σ t r⟩)
  (λ_ _=>⟨λ_P _call _ev _σ=>none⟩)
  (λt l c=>⟨λP call ev σ=>ahO P call ev σ t l c⟩)
  (λt x lo hi mx=>⟨λP call ev σ=>match mx with | none=>ahP P call ev σ t x lo hi | some _=>none⟩)
  (λt x f=>⟨λP call ev σ=>Om P call ev σ t x f⟩)
  (λt x f=>⟨λP call ev σ=>ahQ P call ev σ t x f⟩)
  (λt x ix=>⟨λP call ev σ=>ahR P call ev σ t x ix⟩)
  (λt x ix=>⟨λP call ev σ=>ahT P call ev σ t x ix⟩)
  (λt m k ok=>⟨λP call ev σ=>ahU P call ev σ t m k ok⟩)
  (λt m k v=>⟨λP call ev σ=>Oo P call ev σ t m k v⟩)
  (λ_ _ _=>⟨λ_P _call _ev _σ=>none⟩)
  (λ_ _ _ _=>⟨λ_P _call _ev _σ=>none⟩)
  (λt x=>⟨λP call ev σ=>ahV P call ev σ t x⟩)
  (λit b=>⟨λP call ev σ=>bif b then ahW P call ev σ it else ahX P call ev σ it⟩)
  (λ_=>⟨λ_P _call _ev _σ=>none⟩)
  (λx _ t ok=>⟨λP call ev σ=>ahY P call ev σ x t ok⟩)
  (λx k=>⟨λP call ev σ=>ahZ P call ev σ x k⟩)
  (λc=>⟨λP call ev σ=>ah0 P call ev σ c⟩)
  (λ_=>⟨λ_P _call _ev _σ=>none⟩)
  (λ_=>⟨λ_P _call _ev _σ=>none⟩)
  (λ_=>⟨λ_P _call _ev _σ=>none⟩)
  (λ_ _=>⟨λ_P _call _ev _σ=>none⟩)
  (λ_ _ _=>⟨λ_P _call _ev _σ=>none⟩)
  (λ_ _=>⟨λ_P _call _ev _σ=>none⟩)
def lg (P:Program) (call:Caller) (o:Oper) (ev:Operand->Option AV) (σ:ak):Option (Option AV×ak):=(opF o.op).f P call ev σ
theorem ah8 (P:Program) (σ:ak) (op:UnOp) (a:AV):fUn P σ op a=match uj a with
 | some u=>cZ σ ((nM P (Op.unary op u)).bind (kC 4))
 | none=>cZ σ (Ib op a):=by
 cases op<;>first | rfl | skip
 cases a<;>rfl
theorem rE (P:Program) (call:Caller) (o:Oper) (ev:Operand->Option AV) (σ:ak):lg P call o ev σ=oz P call o ev σ:=by
 obtain ⟨dst,op,type,pos,after,guard⟩:=o;cases op with
 | binOp op t x y _=>
   show Ua P call ev σ op t x y=_
   simp only [Ua,ahI,oz]
 | unOp op _ x=>
   show TY P call ev σ op x=_
   simp only [TY,ah8,oz]
 | slice t x lo hi mx=>cases mx<;>rfl
 | makeFunc fn _ _=>cases fn<;>rfl
 | next it b=>cases b<;>rfl
 | _=>rfl
def Aw (o:Oper) (ops:Array Oper) (a:aU):Option Bool:=
 match o.guard with
 | none=>some true
 | some (j,want)=>
   match ops[j]? with
   | some q=>match q.dst with
     | some d=>match dB (a.t.get d) with
       | some (.b x)=>some (x==want)
       | some (.dM _)=>some false
       | _=>none
     | none=>none
   | none=>none
def Sr (P:Program) (call:Caller) (ops:Array Oper) (i:Nat) (a:aU) (σ:ak):Option (aU×ak):=
 match ops[i]? with
 | none=>none
 | some o=>
   match Aw o ops a with
   | none=>none
   | some false=>(a.put o.dst (some (.dM []))).map (·,σ)
   | some true=>
     match lg P call o a.eval σ with
     | none=>none
     | some (v,σ')=>(a.put o.dst v).map (·,σ')
def FH (P:Program) (call:Caller) (ops:Array Oper):List Nat->aU->ak->Option (aU×ak)
 | [],a,σ=>some (a,σ)
 | i::rest,a,σ=>
   match Sr P call ops i a σ with
   | some (a',σ')=>FH P call ops rest a' σ'
   | none=>none
inductive dP where
 | normal
 | exit (id:Nat)
 | ret
def xX (P:Program) (σ:ak) (a:aU):List ResultVar->Option (List AV)
 | []=>some []
 | .tmp t::rs=>match a.t.get t,xX P σ a rs with
   | some v,some r=>some (v::r)
   | _,_=>none
 | .cell t ty::rs=>match (a.t.get t).bind (sK P ty σ),xX P σ a rs with
   | some v,some r=>some (v::r)
   | _,_=>none
def EN:List AV->AV
 | [v]=>v
 | l=>.dM l
def wQ:List AV->Nat->Tr AV->Tr AV
 | [],_,t=>t
 | v::vs,k,t=>wQ vs (k+1) (t.set k (some v))
abbrev xJ:=Array Oper->aU->ak->Option (aU×ak)
abbrev uJ:=FuncId->Option (List AV->ak->Option (AV×ak))
def Dv (P:Program) (pr:uJ) (run:Code->aU->ak->Option (dP×aU×ak)):Caller:=λf args σ=>
 match pr f with
 | some g=>g args σ
 | none=>
   match P.funcs[f]? with
   | none=>none
   | some fn=>match fn.body with
     | none=>none
     | some c=>
       match run c { t:=wQ args 0 .nil,n:=max args.length fn.ntmps,gn:=P.globals.size } σ with
       | some (.normal,a',σ') | some (.ret,a',σ')=>(xX P σ' a' fn.results.toList).map λl=>(EN l,σ')
       | _=>none
def qC (P:Program) (dr:Caller->xJ) (pr:uJ) (run:Code->aU->ak->Option (dP×aU×ak)) (c:Code) (a:aU) (σ:ak):Option (dP×aU×ak):=
 match c with
 | .skip=>some (.normal,a,σ)
 | .region _ ops false=>(FH P (Dv P pr run) ops (List.range ops.size) a σ).map λ(a,σ)=>(.normal,a,σ)
 | .region _ ops true=>(dr (Dv P pr run) ops a σ).map λ(a,σ)=>(.normal,a,σ)
 | .seq x y=>
   match run x a σ with
   | some (.normal,a',σ')=>run y a' σ'
   | r=>r
 | .cond x y z=>
   match dB (a.eval x) with
   | some (.b t)=>run (if t then y else z) a σ
   | _=>none
 | .block id b=>
   match run b a σ with
   | some (.exit id',a',σ')=>if id'=id then some (.normal,a',σ') else some (.exit id',a',σ')
   | r=>r
 | .loop b=>
   match run b a σ with
   | some (.normal,a',σ')=>run (.loop b) a' σ'
   | r=>r
 | .exit id=>some (.exit id,a,σ)
 | .ret=>some (.ret,a,σ)
 | _=>none
structure wH where
 f:Program->(Caller->xJ)->uJ->(Code->aU->ak->Option (dP×aU×ak))->aU->ak->Option (dP×aU×ak)
def afT:wH:=⟨λ_ _ _ _ a σ=>some (.normal,a,σ)⟩
def afQ (ops:Array Oper) (d:Bool):wH:=bif d then ⟨λP dr pr run a σ=>(dr (Dv P pr run) ops a σ).map λ(a,σ)=>(.normal,a,σ)⟩
 else ⟨λP _ pr run a σ=>(FH P (Dv P pr run) ops (List.range ops.size) a σ).map λ(a,σ)=>(.normal,a,σ)⟩
def afS (x y:Code):wH:=⟨λ_ _ _ run a σ=>match run x a σ with
    | some (.normal,a',σ')=>run y a' σ'
    | r=>r⟩
def afN (x:Operand) (y z:Code):wH:=⟨λ_ _ _ run a σ=>match dB (a.eval x) with
    | some (.b t)=>run (if t then y else z) a σ
    | _=>none⟩
def afM (id:Nat) (b:Code):wH:=⟨λ_ _ _ run a σ=>match run b a σ with
    | some (.exit id',a',σ')=>if id'=id then some (.normal,a',σ') else some (.exit id',a',σ')
    | r=>r⟩
def afP (b:Code):wH:=⟨λ_ _ _ run a σ=>match run b a σ with
    | some (.normal,a',σ')=>run (.loop b) a' σ'
    | r=>r⟩
def afO (id:Nat):wH:=⟨λ_ _ _ _ a σ=>some (.exit id,a,σ)⟩
def afR:wH:=⟨λ_ _ _ _ a σ=>some (.ret,a,σ)⟩
def Jf:wH:=⟨λ_ _ _ _ _ _=>none⟩
def codeF (c:Code):wH:=
 Code.casesOn (motive:=λ_=>wH) c
  afT
  (λ_ ops d=>afQ ops d)
  (λx y=>afS x y)
  (λx y z=>afN x y z)
  (λid b=>afM id b)
  (λb=>afP b)
  (λ_ _ _ _=>Jf)
  (λid=>afO id)
  (λ_=>Jf)
  (λ_=>Jf)
  (λ_=>Jf)
  afR
  (λ_=>Jf)
theorem codeF_eq (P:Program) (dr:Caller->xJ) (pr:uJ) (run:Code->aU->ak->Option (dP×aU×ak)) (c:Code) (a:aU) (σ:ak):(codeF c).f P dr pr run a σ=qC P dr pr run c a σ:=by
 cases c with
 | region id ops d=>cases d<;>rfl
 | _=>rfl
def AU (P:Program) (dr:Caller->xJ) (pr:uJ) (n:Nat):Code->aU->ak->Option (dP×aU×ak):=
 Nat.rec (motive:=λ_=>Code->aU->ak->Option (dP×aU×ak)) (λ_ _ _=>none) (λ_ run c a σ=>(codeF c).f P dr pr run a σ) n
theorem Y1 (P:Program) (dr:Caller->xJ) (pr:uJ) (c:Code) (a:aU) (σ:ak):AU P dr pr 0 c a σ=none:=rfl
theorem sH (P:Program) (dr:Caller->xJ) (pr:uJ) (n:Nat) (c:Code) (a:aU) (σ:ak):AU P dr pr (n+1) c a σ=qC P dr pr (AU P dr pr n) c a σ:=codeF_eq P dr pr _ c a σ
def Y0 (P:Program) (dr:Caller->xJ) (pr:uJ) (n:Nat):Caller:=Dv P pr (AU P dr pr n)
end
end Go.aN
namespace Go.aN
set_option linter.unusedSimpArgs false
noncomputable section
variable [aF]
set_option linter.unusedSectionVars false
set_option linter.unusedVariables false
theorem Fz {η:Env}:∀ {l:List AV} {vs:List Value},ay η l vs↔l.length=vs.length/\∀ (k:Nat) a x,l[k]? = some a->vs[k]? = some x->VR η a x
 | [],vs=>by
   simp only [ay];constructor
   ·rintro rfl;simp
   ·rintro ⟨h,_⟩;cases vs with
    | nil=>rfl
    | cons _ _=>simp at h
 | a::l,vs=>by
   simp only [ay];constructor
   ·rintro ⟨x,xs,rfl,h1,h2⟩
    have ih:=(Fz (l:=l) (vs:=xs)).1 h2;refine ⟨by simp [ih.1], ?_⟩;intro k b y hk hy;cases k with
    | zero=>simp at hk hy;subst hk;subst hy;exact h1
    | succ k=>simp at hk hy;exact ih.2 k b y hk hy
   ·rintro ⟨hl,h⟩
    cases vs with
    | nil=>simp at hl
    | cons x xs=>
      refine ⟨x,xs,rfl,h 0 a x (by simp) (by simp),(Fz (l:=l) (vs:=xs)).2 ⟨by simpa using hl, ?_⟩⟩;intro k b y hk hy;exact h (k+1) b y (by simpa using hk) (by simpa using hy)
theorem ay.length {η:Env} {l:List AV} {vs:List Value} (h:ay η l vs):l.length=vs.length:=(Fz.1 h).1
theorem ay.at {η:Env} {l:List AV} {vs:List Value} (h:ay η l vs) {k:Nat} {a:AV} (hk:l[k]? = some a):∃x,vs[k]? = some x/\VR η a x:=by
 have h':=Fz.1 h;obtain ⟨hlt,rfl⟩:=dR.1 hk;have:k < vs.length:=by omega
 exact ⟨vs[k],bP this,h'.2 k _ _ hk (bP this)⟩
theorem ay.of {η:Env} {l:List AV} {vs:List Value} (hl:l.length=vs.length) (h:∀ (k:Nat) a,l[k]? = some a->∃x,vs[k]? = some x/\VR η a x):ay η l vs:=
 Fz.2 ⟨hl,λk a x hk hx=>by obtain ⟨y,hy,hv⟩:=h k a hk;rw [hx] at hy;cases hy;exact hv⟩
theorem ay.append {η:Env} {l l':List AV} {vs vs':List Value} (h:ay η l vs) (h':ay η l' vs'):ay η (l++l') (vs++vs'):=by
 induction l generalizing vs with
 | nil=>simp only [ay] at h;subst h;simpa using h'
 | cons a l ih=>
   simp only [ay] at h;obtain ⟨x,xs,rfl,h1,h2⟩:=h;exact ⟨x,xs++vs',rfl,h1,ih h2⟩
theorem ay.take {η:Env} {l:List AV} {vs:List Value} (h:ay η l vs) (n:Nat):ay η (l.take n) (vs.take n):=by
 induction n generalizing l vs with
 | zero=>simp [ay]
 | succ n ih=>cases l with
   | nil=>simp only [ay] at h;subst h;simp [ay]
   | cons a l=>
     simp only [ay] at h;obtain ⟨x,xs,rfl,h1,h2⟩:=h;exact ⟨x,xs.take n,by simp,h1,ih h2⟩
theorem ay.drop {η:Env} {l:List AV} {vs:List Value} (h:ay η l vs) (n:Nat):ay η (l.drop n) (vs.drop n):=by
 induction n generalizing l vs with
 | zero=>simpa using h
 | succ n ih=>cases l with
   | nil=>simp only [ay] at h;subst h;simp [ay]
   | cons a l=>
     simp only [ay] at h;obtain ⟨x,xs,rfl,h1,h2⟩:=h;simpa using ih h2
theorem ay.cons {η:Env} {a:AV} {l:List AV} {x:Value} {vs:List Value} (h:VR η a x) (h':ay η l vs):ay η (a::l) (x::vs):=⟨x,vs,rfl,h,h'⟩
structure Env.le (η η':Env):Prop where
 pl:∀id q,η id=some q->η' id=some q
 ro:∀b o,η.ro b=some o->η'.ro b=some o
 gh:∀id,η.gh id=true->η'.gh id=true
theorem Env.le.refl (η:Env):η.le η:=⟨λ_ _ h=>h,λ_ _ h=>h,λ_ h=>h⟩
theorem Env.le.trans {a b c:Env} (h:a.le b) (h':b.le c):a.le c:=⟨λid q hq=>h'.pl id q (h.pl id q hq),λb o ho=>h'.ro b o (h.ro b o ho),λid hq=>h'.gh id (h.gh id hq)⟩
def Env.has (η:Env) (id:Nat):Prop:=(∃q,η id=some q)\/η.gh id=true
theorem Env.has.mono {η η':Env} {id:Nat} (h:η.has id) (hle:η.le η'):η'.has id:=h.elim (λ⟨q,hq⟩=>.inl ⟨q,hle.pl _ _ hq⟩) λhg=>.inr (hle.gh _ hg)
mutual
theorem GR.mono {ro ro':Nat->Option Obj} (h:∀b o,ro b=some o->ro' b=some o):∀ (a:GV) (v:Value),GR ro a v->GR ro' a v
 | .b _,_,hv=>by simpa only [GR] using hv
 | .i _ _,_,hv=>by simpa only [GR] using hv
 | .s _,_,hv=>by simpa only [GR] using hv
 | .g l,_,hv=>by simp only [GR] at hv ⊢;obtain ⟨x,e,h1⟩:=hv;exact ⟨x,e,aO.mono h l x h1⟩
 | .l xs,_,hv=>by
   simp only [GR] at hv ⊢;rcases hv with hv | ⟨bl,off,c,ys,sz,e,hc,h1,h2,h3⟩
   ·exact .inl hv
   exact .inr ⟨bl,off,c,ys,sz,e,hc,aO.mono h xs ys h1,h2,λhn=>by obtain ⟨cs,elem,fr,h4,h5⟩:=h3 hn;exact ⟨cs,elem,fr,h _ _ h4,h5⟩⟩
theorem aO.mono {ro ro':Nat->Option Obj} (h:∀b o,ro b=some o->ro' b=some o):∀ (l:List GV) (vs:List Value),aO ro l vs->aO ro' l vs
 | [],_,hv=>by simpa only [aO] using hv
 | a::l,_,hv=>by
   simp only [aO] at hv ⊢;obtain ⟨x,xs,e,h1,h2⟩:=hv;exact ⟨x,xs,e,GR.mono h a x h1,aO.mono h l xs h2⟩
end
mutual
theorem VR.mono {η η':Env} (h:η.le η'):∀ (a:AV) (v:Value),VR η a v->VR η' a v
 | .b _,_,hv=>by simpa only [VR] using hv
 | .i _ _,_,hv=>by simpa only [VR] using hv
 | .s _,_,hv=>by simpa only [VR] using hv
 | .jq,_,hv=>by simpa only [VR] using hv
 | .p _ _,_,hv=>by simp only [VR] at hv ⊢;obtain ⟨q,hq,e⟩:=hv;exact ⟨q,h.pl _ _ hq,e⟩
 | .dL,_,hv=>by simpa only [VR] using hv
 | .sl _ _ _ _,_,hv=>by simp only [VR] at hv ⊢;obtain ⟨q,hq,e⟩:=hv;exact ⟨q,h.pl _ _ hq,e⟩
 | .nI,_,hv=>by simpa only [VR] using hv
 | .mp _,_,hv=>by simp only [VR] at hv ⊢;obtain ⟨q,hq,e⟩:=hv;exact ⟨q,h.pl _ _ hq,e⟩
 | .xC,_,hv=>by simpa only [VR] using hv
 | .fn _ fi cs,_,hv=>by
   simp only [VR] at hv ⊢;obtain ⟨us,vs,e,h1,h2⟩:=hv;exact ⟨us,vs,e,ay.mono h fi us h1,ay.mono h cs vs h2⟩
 | .pV,_,hv=>by simpa only [VR] using hv
 | .dS _ a,_,hv=>by simp only [VR] at hv ⊢;obtain ⟨x,e,h1⟩:=hv;exact ⟨x,e,VR.mono h a x h1⟩
 | .agg l,_,hv=>by simp only [VR] at hv ⊢;obtain ⟨x,e,h1⟩:=hv;exact ⟨x,e,ay.mono h l x h1⟩
 | .dM l,_,hv=>by simp only [VR] at hv ⊢;obtain ⟨x,e,h1⟩:=hv;exact ⟨x,e,ay.mono h l x h1⟩
 | .z _ _ _,_,hv=>by simpa only [VR] using hv
 | .ro l,_,hv=>by
   simp only [VR] at hv ⊢;rcases hv with hv | ⟨bl,off,c,xs,sz,e,hc,h1,h2,h3⟩
   ·exact .inl hv
   refine .inr ?_;exact ⟨bl,off,c,xs,sz,e,hc,ay.mono h l xs h1,h2,λhn=>by obtain ⟨cs,elem,fr,h4,h5⟩:=h3 hn;exact ⟨cs,elem,fr,h.ro _ _ h4,h5⟩⟩
 | .rp a _,_,hv=>by
   simp only [VR] at hv ⊢;obtain ⟨bl,base,cs,elem,fr,x,h1,h2,h3⟩:=hv;exact ⟨bl,base,cs,elem,fr,x,h.ro _ _ h1,VR.mono h a x h2,h3⟩
 | .nd _,_,hv=>by simp only [VR] at hv ⊢;obtain ⟨g,h1,h2,h3⟩:=hv;exact ⟨g,h1,h2,GR.mono h.ro _ _ h3⟩
 | .rx _ _,_,hv=>by simp only [VR] at hv ⊢;obtain ⟨g,bl,base,cs,elem,fr,x,h1,h2,h3,h4⟩:=hv;exact ⟨g,bl,base,cs,elem,fr,x,h1,h.ro _ _ h2,GR.mono h.ro _ _ h3,h4⟩
 | .sv _ _,_,hv=>by
   simp only [VR] at hv ⊢;obtain ⟨xs,h1,⟨q,hq,h2⟩ | ⟨hg,h2⟩⟩:=hv
   ·exact ⟨xs,h1,.inl ⟨q,h.pl _ _ hq,h2⟩⟩
   ·exact ⟨xs,h1,.inr ⟨h.gh _ hg,h2⟩⟩
 | .pv _ _ _,_,hv=>by simp only [VR] at hv ⊢;obtain ⟨q,k,i,hq,h2⟩:=hv;exact ⟨q,k,i,h.pl _ _ hq,h2⟩
 | .pd _ _,_,hv=>by
   simp only [VR] at hv ⊢;obtain ⟨xs,p,h1,h2,h3⟩:=hv;exact ⟨xs,p,h1,h2,λhn=>by obtain ⟨q,hq,h4⟩:=h3 hn;exact ⟨q,h.pl _ _ hq,h4⟩⟩
theorem ay.mono {η η':Env} (h:η.le η'):∀ (l:List AV) (vs:List Value),ay η l vs->ay η' l vs
 | [],_,hv=>by simpa only [ay] using hv
 | a::l,_,hv=>by
   simp only [ay] at hv ⊢;obtain ⟨x,xs,e,h1,h2⟩:=hv;exact ⟨x,xs,e,VR.mono h a x h1,ay.mono h l xs h2⟩
end
theorem Hf {α β:Type} {f:α->Option β}:∀ {l:List α} {r:List β},qJ f l=some r->l.length=r.length/\∀ (k:Nat) x,l[k]? = some x->∃y,r[k]? = some y/\f x=some y
 | [],r,h=>by simp [qJ] at h;subst h;simp
 | x::xs,r,h=>by
   simp only [qJ] at h;split at h
   ·cases h
   ·rename_i y hy
    split at h
    ·cases h
    ·rename_i ys hys
     cases h;have ih:=Hf hys;refine ⟨by simp [ih.1],λk z hz=>?_⟩;cases k with
     | zero=>simp at hz;subst hz;exact ⟨y,by simp,hy⟩
     | succ k=>simp at hz;obtain ⟨u,hu,hf⟩:=ih.2 k z hz;exact ⟨u,by simpa using hu,hf⟩
theorem aer {η:Env}:∀ (n:Nat) (a:AV) (v:Value),a.toVal n=some v->VR η a v:=by
 intro n;induction n with
 | zero=>intro a v h;simp [AV.toVal] at h
 | succ n ih=>
   intro a v h;have lst:∀ (l:List AV) (vs:List Value),qJ (AV.toVal n) l=some vs->ay η l vs:=λl vs hl=>by
    have:=Hf hl;exact ay.of this.1 λk a hk=>by obtain ⟨y,hy,hf⟩:=this.2 k a hk;exact ⟨y,hy,ih _ _ hf⟩
   cases a<;>simp only [AV.toVal,aW,aT] at h<;>simp only [VR]<;>first | exact h.symm | (cases h;done) | skip
   case dS t a=>obtain ⟨y,h1,h2⟩:=h;exact ⟨_,h2.symm,ih _ _ h1⟩
   case agg l=>obtain ⟨y,h1,h2⟩:=h;exact ⟨_,h2.symm,lst _ _ h1⟩
   case dM l=>obtain ⟨y,h1,h2⟩:=h;exact ⟨_,h2.symm,lst _ _ h1⟩
theorem aeu {η:Env}:∀ (n:Nat) (a:AV) (v x:Value),a.toVal n=some v->VR η a x->x=v:=by
 intro n;induction n with
 | zero=>intro a v x h;simp [AV.toVal] at h
 | succ n ih=>
   intro a v x h hx;have lst:∀ (l:List AV) (vs us:List Value),qJ (AV.toVal n) l=some vs->ay η l us->us=vs:=λl vs us hl hu=>by
    have h1:=Hf hl;have h2:=Fz.1 hu;apply Fb;intro k;by_cases hk:k < l.length
    ·obtain ⟨y,hy,hf⟩:=h1.2 k _ (bP hk)
     obtain ⟨z,hz,hv⟩:=hu.at (bP hk);rw [hy,hz,ih _ _ _ hf hv]
    ·rw [vF (by omega),vF (by omega)]
   cases a<;>simp only [AV.toVal,aW,aT] at h<;>simp only [VR] at hx<;>first | exact hx.trans h | (cases h;done) | skip
   case dS t a=>obtain ⟨y,h1,h2⟩:=h;obtain ⟨z,rfl,hz⟩:=hx;rw [<- h2,ih _ _ _ h1 hz]
   case agg l=>obtain ⟨y,h1,h2⟩:=h;obtain ⟨z,rfl,hz⟩:=hx;rw [<- h2,lst _ _ _ h1 hz]
   case dM l=>obtain ⟨y,h1,h2⟩:=h;obtain ⟨z,rfl,hz⟩:=hx;rw [<- h2,lst _ _ _ h1 hz]
theorem Aa {η:Env}:∀ (n:Nat) (v:Value) (a:AV),kC n v=some a->VR η a v:=by
 intro n;induction n with
 | zero=>intro v a h;simp [kC] at h
 | succ n ih=>
   intro v a h;have lst:∀ (vs:List Value) (l:List AV),qJ (kC n) vs=some l->ay η l vs:=λvs l hl=>by
    have h1:=Hf hl;refine ay.of h1.1.symm λk a hk=>?_;have hlt:k < vs.length:=by have:=(dR.1 hk).1;omega
    obtain ⟨y,hy,hf⟩:=h1.2 k _ (bP hlt);rw [hk] at hy;cases hy;exact ⟨_,bP hlt,ih _ _ hf⟩
   unfold kC at h;split at h;all_goals try (cases h;done)
   all_goals try (cases h;simp only [VR];done)
   ·simp only [aW] at h;obtain ⟨y,h1,rfl⟩:=h;simp only [VR];exact ⟨_,rfl,ih _ _ h1⟩
   ·simp only [aW] at h;obtain ⟨y,h1,rfl⟩:=h;simp only [VR];exact ⟨_,rfl,lst _ _ h1⟩
   ·simp only [aW] at h;obtain ⟨y,h1,rfl⟩:=h;simp only [VR];exact ⟨_,rfl,lst _ _ h1⟩
theorem yK {α:Type} {P:Program} {s:Sem α} {a:α} (h:nM P s=some a) (w:World):s.run P w=.ok a w:=by
 induction s with
 | pure x=>simp [nM] at h;subst h;rfl
 | program k ih=>exact ih P h
 | mark m k ih=>exact ih h
 | _=>simp [nM] at h
omit [aF] in
theorem Tr.aa4 {α:Type}:∀p:List Bool,(Tr.nil:Tr α).tC p=none
 | []=>rfl
 | b::p=>by
   show Tr.tC p (bif b then Tr.nil else Tr.nil)=none
   cases b<;>exact Tr.aa4 p
omit [aF] in
@[simp] theorem Tr.get_nil {α:Type} (m:Nat):(Tr.nil:Tr α).get m=none:=Tr.aa4 _
omit [aF] in
theorem Tr.Ul {α:Type} (x:Option α):∀ (p q:List Bool) (t:Tr α),(t.EJ x p).tC q=if q=p then x else t.tC q
 | [],[],t=>rfl
 | [],c::q,t=>by
   rw [ah (by simp)];rfl
 | b::p,[],t=>by
   rw [ah (by simp)];cases b<;>rfl
 | b::p,c::q,t=>by
   have h1:(t.EJ x (b::p))=bif b then .nd t.val (t.zW.EJ x p) t.Ah else .nd t.val t.zW (t.Ah.EJ x p):=rfl
   have h2:∀u:Tr α,u.tC (c::q)=(bif c then u.zW else u.Ah).tC q:=λ_=>rfl;rw [h1,h2,h2];cases b<;>cases c
   ·show (t.Ah.EJ x p).tC q=_
    rw [Tr.Ul x p q];simp
   ·show t.zW.tC q=_
    simp
   ·show t.Ah.tC q=_
    simp
   ·show (t.zW.EJ x p).tC q=_
    rw [Tr.Ul x p q];simp
def Q8:List Bool->Nat
 | []=>0
 | b::p=>2 * Q8 p+(if b then 1 else 2)
omit [aF] in
theorem aeF:∀ (f n:Nat),n < 2 ^ f->Q8 (KU f n)=n
 | 0,n,h=>by
   have:n=0:=by simpa using h
   subst this;rfl
 | f+1,n,h=>by
   have h1:KU (f+1) n=bif Nat.beq n 0 then [] else Nat.beq ((n - 1) % 2) 0::KU f ((n - 1) / 2):=rfl
   rw [h1];by_cases h0:n=0
   ·subst h0;rfl
   ·have hb:Nat.beq n 0=false:=by cases n with | zero=>exact absurd rfl h0 | succ n=>rfl
    rw [hb];show 2 * Q8 (KU f ((n - 1) / 2))+_=n
    have hp:2 ^ (f+1)=2 * 2 ^ f:=by rw [Fj,CX]
    rw [aeF f _ (by omega)];rcases Nat.mod_two_eq_zero_or_one (n - 1) with h2 | h2
    ·rw [h2];show 2 * ((n - 1) / 2)+1=n;omega
    ·rw [h2];show 2 * ((n - 1) / 2)+2=n;omega
omit [aF] in
theorem aeE (n:Nat):Q8 (path n)=n:=aeF _ _ Nat.lt_log2_self
omit [aF] in
theorem alx {n m:Nat}:path n=path m↔n=m:=⟨λh=>by rw [<- aeE n,h,aeE],λh=>by rw [h]⟩
omit [aF] in
theorem Tr.tH {α:Type} (t:Tr α) (n m:Nat) (x:Option α):(t.set n x).get m=if m=n then x else t.get m:=by
 unfold Tr.get Tr.set;rw [Tr.Ul];by_cases h:m=n
 ·subst h;simp
 ·rw [ah h,ah (λe=>h (alx.1 e))]
omit [aF] in
theorem ak.get_put (σ:ak) (id id':Nat) (o:aY):(σ.put id o).get id'=if id'=id then some o else σ.get id':=Tr.tH _ _ _ _
omit [aF] in
theorem ak.vS (σ:ak) (id id':Nat):(σ.kill id).get id'=if id'=id then none else σ.get id':=Tr.tH _ _ _ _
omit [aF] in
theorem ak.nY (σ:ak) (id':Nat) (o:aY):(σ.new o).get id'=if id'=σ.next then some o else σ.get id':=Tr.tH _ _ _ _
def aY.own:aY->Bool
 | .cells _ _ rw _=>rw
 | _=>true
structure oW (P:Program) (η:Env) (q:Place) (c:List AV) (et:TypeId) (rw opn:Bool) (cs:Array Value) (elem:TypeId) (fr:Nat×Nat):Prop where
 fits:q.ba+q.sz<=cs.size
 le:c.length<=q.sz
 shut:opn=false->c.length=q.sz
 cell:∀ (k:Nat) a,c[k]? = some a->∃x,cs[q.ba+k]? = some x/\VR η a x
 free:rw=true->∀k,k < q.sz->¬ (fr.1<=q.ba+k/\q.ba+k < fr.2)
 whole:et≠0->elem=et/\q.ba+q.sz=cs.size/\(opn=false->q.ba=0)
 room:opn=true->et≠0/\0 < q.es/\sizeT P et=some q.es
def xw (kk:Option IntKind) (a:GV):Prop:=match kk with
 | some k=>∃n,a=.i k n
 | none=>∃s,a=.s s
def Ig (sz:Option Nat) (b:GV):Prop:=match sz with
 | none=>b.scalar=true
 | some n=>∃cs,b=.g cs/\cs.length=n/\cs.all GV.scalar=true
def pF (ro:Nat->Option Obj) (kk:Option IntKind) (sz:Option Nat):List GV->List MapEntry->Prop
 | [],ms=>ms=[]
 | x::xs,ms=>∃a b m rest,x=.g [a,b]/\ms=m::rest/\xw kk a/\Ig sz b/\GR ro a m.key/\GR ro b m.val/\pF ro kk sz xs rest
theorem pF.mono {ro ro':Nat->Option Obj} (h:∀b o,ro b=some o->ro' b=some o) {kk:Option IntKind} {sz:Option Nat}:∀ {xs:List GV} {ms:List MapEntry},pF ro kk sz xs ms->pF ro' kk sz xs ms
 | [],ms,r=>r
 | x::xs,ms,r=>by
   obtain ⟨a,b,m,rest,e1,e2,h1,h2,h3,h4,h5⟩:=r;exact ⟨a,b,m,rest,e1,e2,h1,h2,GR.mono h _ _ h3,GR.mono h _ _ h4,pF.mono h h5⟩
def OR (P:Program) (η:Env) (q:Place) (w:World):aY->Prop
 | .cells c et rw opn=>∃cs elem fr,w.heap[q.bl]? = some (.cells cs elem fr)/\oW P η q c et rw opn cs elem fr
 | .iter s pos=>w.heap[q.bl]? = some (.stringIter ⟨⟨s⟩⟩ pos)/\q.ba=0
 | .map es=>∃ms clock,w.heap[q.bl]? = some (.map ms clock)/\ms.size=es.length/\∀ (k:Nat) e,es[k]? = some e->∃m,ms[k]? = some m/\VR η e.1 m.key/\VR η e.2 m.val
 | .vec n et f=>∃xs cs elem fr ys,aF.val n=some (.l xs)/\w.heap[q.bl]? = some (.cells cs elem fr)/\aO η.ro xs ys/\(∀y∈ys,y.cells.size=q.es)/\Bg cs q.ba (cO ys)/\xs.length * q.es<=q.sz/\oW P η q [] et true true cs elem fr/\(∀x∈xs,x.cells.all GV.scalar=true)/\(f=true->q.es<=q.sz)
 | .smap n kk sz=>∃xs ms clock,aF.val n=some (.l xs)/\w.heap[q.bl]? = some (.map ms clock)/\pF η.ro kk sz xs ms.toList
 | .pmap es=>(es.map (·.1)).Nodup/\∃ms clock ms',w.heap[q.bl]? = some (.map ms clock)/\ms.toList.Perm ms'/\ms'.length=es.length/\∀ (k:Nat) e,es[k]? = some e->∃m,ms'[k]? = some m/\m.key=.string ⟨⟨e.1⟩⟩/\VR η e.2 m.val
 | .iterM none=>q.ba=0/\∃since last,w.heap[q.bl]? = some (.mapIter none since #[] last)
 | .iterM (some m)=>q.ba=0/\∃since last q',η m=some q'/\w.heap[q.bl]? = some (.mapIter (some q'.bl) since #[] last)
theorem oW.mono {P:Program} {η η':Env} (h:η.le η') {q:Place} {c:List AV} {et:TypeId} {rw opn:Bool} {cs:Array Value} {elem:TypeId} {fr:Nat×Nat}
 (r:oW P η q c et rw opn cs elem fr):oW P η' q c et rw opn cs elem fr:=
 { r with cell:=λk a hk=>by obtain ⟨x,hx,hv⟩:=r.cell k a hk;exact ⟨x,hx,VR.mono h _ _ hv⟩ }
theorem OR.mono {P:Program} {η η':Env} (h:η.le η') {q:Place} {w:World} {o:aY} (r:OR P η q w o):OR P η' q w o:=by
 cases o with
 | cells c et rw opn=>obtain ⟨cs,elem,fr,h1,h2⟩:=r;exact ⟨cs,elem,fr,h1,h2.mono h⟩
 | iter s pos=>exact r
 | map es=>
   obtain ⟨ms,clock,h1,h2,h3⟩:=r;refine ⟨ms,clock,h1,h2,λk e hk=>?_⟩;obtain ⟨m,hm,ha,hb⟩:=h3 k e hk;exact ⟨m,hm,VR.mono h _ _ ha,VR.mono h _ _ hb⟩
 | iterM m=>
   cases m with
   | none=>exact r
   | some m=>
     obtain ⟨h0,since,last,q',h1,h2⟩:=r;exact ⟨h0,since,last,q',h.pl _ _ h1,h2⟩
 | smap n kk sz=>
   obtain ⟨xs,ms,clock,h1,h2,h3⟩:=r;exact ⟨xs,ms,clock,h1,h2,h3.mono h.ro⟩
 | pmap es=>
   obtain ⟨hn,ms,clock,ms',h1,hp,h2,h3⟩:=r;refine ⟨hn,ms,clock,ms',h1,hp,h2,λk e hk=>?_⟩;obtain ⟨m,hm,ha,hb⟩:=h3 k e hk;exact ⟨m,hm,ha,VR.mono h _ _ hb⟩
 | vec n et f=>
   obtain ⟨xs,cs,elem,fr,ys,h1,h2,h3,h4,h5,h6,h7,h8⟩:=r;exact ⟨xs,cs,elem,fr,ys,h1,h2,aO.mono h.ro _ _ h3,h4,h5,h6,h7.mono h,h8⟩
theorem OR.heap {P:Program} {η:Env} {q:Place} {w w':World} {o:aY} (h:w'.heap[q.bl]? = w.heap[q.bl]?) (r:OR P η q w o):OR P η q w' o:=by
 cases o with
 | iterM m=>cases m<;>simp only [OR] at r ⊢<;>rw [h]<;>exact r
 | _=>simp only [OR] at r ⊢;rw [h];exact r
def RY (c:List AV) (cs:Array Value):Prop:=(∀ (k:Nat) a,c[k]? = some a->∃x,cs[k]? = some x/\a.toVal 4=some x)/\(c≠[]->cs.size=c.length)/\(c=[]->∃t q,cs[0]? = some (.iface t q))
def AQ (η:Env) (g:Nat) (c:List AV):Prop:=∃cs elem fr,η.ro g=some (.cells cs elem fr)/\c.length<=cs.size/\RY c cs
theorem AQ.mono {η η':Env} {g:Nat} {c:List AV} (h:AQ η g c) (hle:η.le η'):AQ η' g c:=by
 obtain ⟨cs,elem,fr,h1,h2⟩:=h;exact ⟨cs,elem,fr,hle.ro _ _ h1,h2⟩
def Live (P:Program) (η:Env) (w:World) (id:Nat) (o:aY):Prop:=(∃q,η id=some q/\OR P η q w o)\/(η.gh id=true/\∃n et f,o=.vec n et f/\aF.val n=some (.l []))
theorem Live.mono {P:Program} {η η':Env} (h:η.le η') {w:World} {id:Nat} {o:aY} (r:Live P η w id o):Live P η' w id o:=by
 rcases r with ⟨q,hq,hr⟩ | ⟨hg,h2⟩
 ·exact .inl ⟨q,h.pl _ _ hq,hr.mono h⟩
 ·exact .inr ⟨h.gh _ hg,h2⟩
theorem Live.heap {P:Program} {η:Env} {w w':World} {id:Nat} {o:aY} (r:Live P η w id o) (h:∀q,η id=some q->OR P η q w o->w'.heap[q.bl]? = w.heap[q.bl]?):Live P η w' id o:=by
 rcases r with ⟨q,hq,hr⟩ | h2
 ·exact .inl ⟨q,hq,OR.heap (h q hq hr) hr⟩
 ·exact .inr h2
structure SR (P:Program) (η:Env) (σ:ak) (w:World):Prop where
 kR:∀g,g<=P.globals.size->∃sz es,η g=some ⟨g,0,sz,es⟩
 dom:∀id q,η id=some q->id < σ.next
 live:∀id o,σ.get id=some o->Live P η w id o
 jf:∀id,η.gh id=true->η id=none/\id < σ.next
 sep:∀id o id' o' q q',σ.get id=some o->o.own=true->σ.get id'=some o'->id≠id'->η id=some q->η id'=some q'->q.bl≠q'.bl
 iI:∀b o,η.ro b=some o->w.heap[b]? = some o
 jQ:∀id o q,σ.get id=some o->o.own=true->η id=some q->η.ro q.bl=none
 tabs:∀p∈aF.tabs,AQ η p.1 p.2
def aY.ajR:aY->Bool
 | .vec _ _ _=>true
 | _=>false
theorem SR.obj {P:Program} {η:Env} {σ:ak} {w:World} (h:SR P η σ w):∀id o,σ.get id=some o->o.ajR=false->∃q,η id=some q/\OR P η q w o:=by
 intro id o ho hv;rcases h.live id o ho with h1 | ⟨_,n,et,f,rfl,_⟩
 ·exact h1
 ·cases hv
theorem SR.at {P:Program} {η:Env} {σ:ak} {w:World} (h:SR P η σ w) {id:Nat} {o:aY} {q:Place} (ho:σ.get id=some o) (hq:η id=some q):OR P η q w o:=by
 rcases h.live id o ho with ⟨q',hq',hr⟩ | ⟨hg,_⟩
 ·rw [hq] at hq';cases hq';exact hr
 ·rw [(h.jf id hg).1] at hq;cases hq
structure St (P:Program) (η:Env) (σ:ak) (w:World) (η':Env) (σ':ak) (w':World):Prop where
 ext:η.le η'
 rel:SR P η' σ' w'
 size:w.heap.size<=w'.heap.size
 keep:∀bl,bl < w.heap.size->(∀id o q,σ.get id=some o->o.own=true->σ.lock<=id->η id=some q->q.bl≠bl)->w'.heap[bl]? = w.heap[bl]?
 own:∀id o q,σ'.get id=some o->o.own=true->σ.lock<=id->η' id=some q->w.heap.size<=q.bl\/∃dn o0 q0,σ.get dn=some o0/\o0.own=true/\σ.lock<=dn/\η dn=some q0/\q0.bl=q.bl
 os:w'.os=w.os
 tape:w'.tape=w.tape
 output:w'.output=w.output
 lock:σ'.lock=σ.lock
 next:σ.next<=σ'.next
 new:∀id,η'.has id->η.has id\/(σ.next<=id/\id < σ'.next)
 oh:∀b,η'.ro b≠none->η.ro b≠none\/w.heap.size<=b\/∃dn o0 q0,σ.get dn=some o0/\o0.own=true/\σ.lock<=dn/\η dn=some q0/\q0.bl=b
theorem St.refl {P:Program} {η:Env} {σ:ak} {w:World} (h:SR P η σ w):St P η σ w η σ w:=
 ⟨Env.le.refl _,h,dD _,λ_ _ _=>rfl,λid o q h1 h2 h3 h4=>.inr ⟨id,o,q,h1,h2,h3,h4,rfl⟩,rfl,rfl,rfl,rfl,dD _,λ_ h=>.inl h,λ_ h=>.inl h⟩
theorem St.trans {P:Program} {η η1 η2:Env} {σ σ1 σ2:ak} {w w1 w2:World} (h:St P η σ w η1 σ1 w1) (k:St P η1 σ1 w1 η2 σ2 w2):St P η σ w η2 σ2 w2:=by
 refine ⟨h.ext.trans k.ext,k.rel,iF h.size k.size, ?_, ?_,k.os.trans h.os,k.tape.trans h.tape,k.output.trans h.output,k.lock.trans h.lock,iF h.next k.next, ?_, ?_⟩;rotate_right
 ·intro b hb
  rcases k.oh b hb with h1 | h1 | ⟨dn,o0,q0,a1,b1,c1,d1,e1⟩
  ·exact h.oh b h1
  ·exact .inr (.inl (iF h.size h1))
  ·rcases h.own dn o0 q0 a1 b1 (h.lock ▸ c1) d1 with h2 | ⟨id2,o2,q2,a2,b2,c2,d2,e2⟩
   ·right;left;omega
   ·exact .inr (.inr ⟨id2,o2,q2,a2,b2,c2,d2,e2.trans e1⟩)
 rotate_right
 ·intro id hq
  rcases k.new id hq with h1 | ⟨h1,h2⟩
  ·rcases h.new id h1 with h3 | ⟨h3,h4⟩
   ·exact .inl h3
   ·exact .inr ⟨h3,uF h4 k.next⟩
  ·exact .inr ⟨Nat.le_trans h.next h1,h2⟩
 ·intro bl hbl hno
  rw [k.keep bl (uF hbl h.size) ?_,h.keep bl hbl hno];intro id o q h1 h2 h3 h4;rcases h.own id o q h1 h2 (h.lock ▸ h3) h4 with h5 | ⟨dn,o0,q0,a,b,c,d,e⟩
  ·omega
  ·rw [<- e];exact hno dn o0 q0 a b c d
 ·intro id o q h1 h2 h3 h4
  rcases k.own id o q h1 h2 (by rw [h.lock];exact h3) h4 with h5 | ⟨dn,o0,q0,a,b,c,d,e⟩
  ·exact .inl (iF h.size h5)
  ·rcases h.own dn o0 q0 a b (h.lock ▸ c) d with h6 | ⟨id1,o1,q1,a1,b1,c1,d1,e1⟩
   ·left;omega
   ·exact .inr ⟨id1,o1,q1,a1,b1,c1,d1,e1.trans e⟩
theorem SR.hasLt {P:Program} {η:Env} {σ:ak} {w:World} (h:SR P η σ w) {id:Nat} (hh:η.has id):id < σ.next:=hh.elim (λ⟨q,hq⟩=>h.dom id q hq) λhg=>(h.jf id hg).2
theorem SR.JF {P:Program} {η:Env} {σ:ak} {w:World} (h:SR P η σ w) {id:Nat} {o:aY} (ho:σ.get id=some o):η.has id:=(h.live id o ho).elim (λ⟨q,hq,_⟩=>.inl ⟨q,hq⟩) λ⟨hg,_⟩=>.inr hg
theorem St.akY {P:Program} {η η':Env} {σ σ':ak} {w w':World} (h:St P η σ w η' σ' w') {id:Nat} {q:Place} (hq:η' id=some q):η id=some q\/(σ.next<=id/\id < σ'.next):=by
 rcases h.new id (.inl ⟨q,hq⟩) with (⟨p,hp⟩ | hg) | hn
 ·have:=h.ext.pl _ _ hp
  rw [hq] at this;cases this;exact .inl hp
 ·have:=(h.rel.jf id (h.ext.gh _ hg)).1
  rw [hq] at this;cases this
 ·exact .inr hn
theorem SR.drew {P:Program} {η:Env} {σ:ak} {w:World} (h:SR P η σ w):SR P η σ { w with drawn:=w.drawn+1 }:=
 ⟨h.kR,h.dom,λid o ho=>(h.live id o ho).heap (w:=w) (λ_ _ _=>rfl),h.jf,h.sep,h.iI,h.jQ,h.tabs⟩
theorem St.drew {P:Program} {η:Env} {σ:ak} {w:World} (h:SR P η σ w):St P η σ w η σ { w with drawn:=w.drawn+1 }:=
 ⟨Env.le.refl _,h.drew,dD _,λ_ _ _=>rfl,λid o q h1 h2 h3 h4=>.inr ⟨id,o,q,h1,h2,h3,h4,rfl⟩,rfl,rfl,rfl,rfl,dD _,λ_ h=>.inl h,λ_ h=>.inl h⟩
end
end Go.aN
namespace Go.aN
set_option linter.unusedSimpArgs false
noncomputable section
variable [aF]
set_option linter.unusedSectionVars false
set_option linter.unusedVariables false
theorem nT (bl off n:Nat):(⟨bl,off,none⟩:Addr).add n=⟨bl,off+n,none⟩:=by
 unfold Addr.add;split
 ·next h=>simp [h]
 ·rfl
theorem Ji {w:World} {bl off:Nat} {cs:Array Value} {elem:TypeId} {fr:Nat×Nat} (h:w.heap[bl]? = some (.cells cs elem fr)) :
 w.cell? ⟨bl,off,none⟩=cs[off]?:=by
 simp [World.cell?,h]
theorem aaX {w:World} {bl off:Nat} {cs:Array Value} {elem:TypeId} {fr:Nat×Nat} (h:w.heap[bl]? = some (.cells cs elem fr)) :
 w.frozen? ⟨bl,off,none⟩=(decide (fr.1<=off)&&decide (off < fr.2)):=by
 simp [World.frozen?,h]
theorem run_loadCellsFrom {P:Program} {w:World} {bl off:Nat} {cs:Array Value} {elem:TypeId} {fr:Nat×Nat} (h:w.heap[bl]? = some (.cells cs elem fr)) :
 ∀ (n i:Nat) (acc:Array Value),off+i+n<=cs.size->
   (loadCellsFrom ⟨bl,off,none⟩ i n acc).run P w=.ok (acc++(cs.toList.drop (off+i)).take n) w:=by
 intro n;induction n with
 | zero=>intro i acc _;simp [loadCellsFrom]
 | succ n ih=>
   intro i acc hle;have hlt:off+i < cs.size:=by omega
   have hc:w.cell? ⟨bl,off+i,none⟩=some cs[off+i]:=by rw [Ji h];simp [hlt]
   simp only [loadCellsFrom,aQ,nT];have hl:(load ⟨bl,off+i,none⟩).run P w=.ok cs[off+i] w:=by simp [load,Sem.run,hc]
   rw [hl];simp only [aP];rw [ih (i+1) _ (by omega)];congr 1;have:cs.toList.drop (off+i)=cs[off+i]::cs.toList.drop (off+(i+1)):=by
    rw [jw (by simpa using hlt)];simp [iR]
   rw [this];simp
theorem run_loadCells {P:Program} {w:World} {bl off n:Nat} {cs:Array Value} {elem:TypeId} {fr:Nat×Nat} (h:w.heap[bl]? = some (.cells cs elem fr)) (hle:off+n<=cs.size) :
 (loadCells ⟨bl,off,none⟩ n).run P w=.ok ⟨(cs.toList.drop off).take n⟩ w:=by
 unfold loadCells;rw [run_loadCellsFrom h n 0 #[] (by simpa using hle)];simp
theorem adN {P:Program} {w:World} {bl off:Nat} {cs:Array Value} {elem:TypeId} {fr:Nat×Nat} {x:Value} (h:w.heap[bl]? = some (.cells cs elem fr)) (hx:cs[off]? = some x) :
 (load ⟨bl,off,none⟩).run P w=.ok x w:=by
 have hc:w.cell? ⟨bl,off,none⟩=some x:=by rw [Ji h,hx]
 simp [load,Sem.run,hc]
def setFrom (cs:Array Value) (off:Nat):List Value->Array Value
 | []=>cs
 | v::vs=>setFrom (cs.setIfInBounds off v) (off+1) vs
theorem H6:∀ (vs:List Value) (cs:Array Value) (off:Nat),(setFrom cs off vs).size=cs.size
 | [],_,_=>rfl
 | v::vs,cs,off=>by rw [setFrom,H6 vs];simp
theorem Qv:∀ (vs:List Value) (cs:Array Value) (off k:Nat),off+vs.length<=cs.size->
 (setFrom cs off vs)[k]? = if off<=k/\k < off+vs.length then vs[k - off]? else cs[k]?
 | [],cs,off,k,h=>by simp [setFrom];omega
 | v::vs,cs,off,k,h=>by
   simp only [iY] at h;rw [setFrom,Qv vs _ _ _ (by simp;omega)];by_cases h1:off+1<=k/\k < off+1+vs.length
   ·rw [aj h1,aj ⟨by omega,by simp;omega⟩]
    have:k - off=(k - (off+1))+1:=by omega
    rw [this];simp
   ·rw [ah h1]
    by_cases h2:k=off
    ·subst h2
     rw [aj ⟨Nat.le_refl _,by simp⟩];have hk:k < cs.size:=by omega
     simp [hk]
    ·rw [ah (by simp only [iY];omega)]
     rw [y7,ah (λe=>h2 e.symm)]
def kT (w:World) (bl:Nat) (o:Obj):World:={ w with heap:=w.heap.setIfInBounds bl o }
theorem yN {w:World} {bl:Nat} {o o':Obj} (h:w.heap[bl]? = some o):(kT w bl o').heap[bl]? = some o':=by
 have:bl < w.heap.size:=(nP.1 h).1;simp [kT,this]
theorem Aj {w:World} {bl k:Nat} {o':Obj} (h:k≠bl):(kT w bl o').heap[k]? = w.heap[k]?:=by
 simp only [kT];rw [y7,ah (λe=>h e.symm)]
theorem Ak {w:World} {bl:Nat} {o':Obj}:(kT w bl o').heap.size=w.heap.size:=by simp [kT]
theorem aop {w:World} {bl:Nat} {o o':Obj}:kT (kT w bl o) bl o'=kT w bl o':=by
 simp only [kT];congr 1;apply LX;intro i;simp only [y7,Array.size_setIfInBounds];split<;>rfl
theorem setCell_eq {w:World} {bl off:Nat} {cs:Array Value} {elem:TypeId} {fr:Nat×Nat} (h:w.heap[bl]? = some (.cells cs elem fr)) (v:Value) :
 w.setCell ⟨bl,off,none⟩ v=kT w bl (.cells (cs.setIfInBounds off v) elem fr):=by
 unfold World.setCell kT;congr 1;apply LX;intro i;rw [EX,y7];by_cases e:bl=i
 ·subst e
  have:bl < w.heap.size:=(nP.1 h).1;rw [aj rfl,aj rfl,aj this,h];rfl
 ·rw [ah e,ah e]
theorem aoo {w:World} {bl:Nat} {o:Obj} (h:w.heap[bl]? = some o):kT w bl o=w:=by
 unfold kT;have:w.heap.setIfInBounds bl o=w.heap:=by
  apply LX;intro i;rw [y7];by_cases e:bl=i
  ·subst e
   have:bl < w.heap.size:=(nP.1 h).1;rw [aj rfl,aj this,h]
  ·rw [ah e]
 rw [this]
def nK:Value->Bool
 | .agg _ | .tuple _=>false
 | _=>true
theorem Xw {P:Program}:∀ (vs:List Value) (w:World) (bl off i:Nat) (cs:Array Value) (elem:TypeId) (fr:Nat×Nat),
 w.heap[bl]? = some (.cells cs elem fr)->off+i+vs.length<=cs.size->(∀v∈vs,nK v=true)->
 (∀k,off+i<=k->k < off+i+vs.length->¬ (fr.1<=k/\k < fr.2))->
 (storeCells ⟨bl,off,none⟩ vs i).run P w=.ok () (kT w bl (.cells (setFrom cs (off+i) vs) elem fr))
 | [],w,bl,off,i,cs,elem,fr,h,_,_,_=>by simp [storeCells,setFrom,aoo h]
 | v::vs,w,bl,off,i,cs,elem,fr,h,hle,hone,hfr=>by
   simp only [iY] at hle hfr;have hlt:off+i < cs.size:=by omega
   have hc:w.cell? ⟨bl,off+i,none⟩=some cs[off+i]:=by rw [Ji h];simp [hlt]
   have hf:w.frozen? ⟨bl,off+i,none⟩=false:=by
    rw [aaX h];have:=hfr (off+i) (by omega) (by omega);simpa using this
   have hv:=hone v (by simp);have hs:(store ⟨bl,off+i,none⟩ v).run P w=.ok () (kT w bl (.cells (cs.setIfInBounds (off+i) v) elem fr)):=by
    rw [<- setCell_eq h];cases v<;>simp [nK] at hv<;>simp [store,Sem.run,hc,hf]
   simp only [storeCells,aQ,nT,hs,aP];rw [Xw vs _ bl off (i+1) (cs.setIfInBounds (off+i) v) elem fr (yN h) (by simp;omega) (λx hx=>hone x (by simp [hx])) (λk h1 h2=>hfr k (by omega) (by omega))];rw [aop];rfl
def Env.put (η:Env) (id:Nat) (q:Place):Env:=⟨λk=>if k=id then some q else η k,η.ro,η.gh⟩
theorem Env.Eu {P:Program} {η:Env} {σ:ak} {w:World} (h:SR P η σ w) (q:Place):η.le (η.put σ.next q):=by
 refine ⟨λid p hp=>?_,λ_ _ h=>h,λ_ h=>h⟩;have:=h.dom id p hp;simp only [Env.put];rw [ah (by omega)];exact hp
theorem tu {w:World} {k:Nat} {o:Obj} (h:w.heap[k]? = some o):k < w.heap.size:=(nP.1 h).1
theorem OR.lt {P:Program} {η:Env} {q:Place} {w:World} {o:aY} (h:OR P η q w o):q.bl < w.heap.size:=by
 cases o with
 | cells c et rw opn=>obtain ⟨cs,elem,fr,h1,_⟩:=h;exact tu h1
 | iter s pos=>exact tu h.1
 | map es=>obtain ⟨ms,clock,h1,_⟩:=h;exact tu h1
 | iterM m=>cases m with
   | none=>obtain ⟨_,_,_,h1⟩:=h;exact tu h1
   | some m=>obtain ⟨_,_,_,_,_,h1⟩:=h;exact tu h1
 | vec n et f=>obtain ⟨_,_,_,_,_,_,h1,_⟩:=h;exact tu h1
 | smap n kk sz=>obtain ⟨_,_,_,_,h1,_⟩:=h;exact tu h1
 | pmap es=>obtain ⟨_,_,_,_,h1,_⟩:=h;exact tu h1
theorem Env.adu {P:Program} {η:Env} {σ:ak} {w:World} (h:SR P η σ w) (q:Place) {n:Nat} (hn:σ.next < n):∀id,(η.put σ.next q).gh id=true->(η.put σ.next q) id=none/\id < n:=by
 intro id hid;obtain ⟨h1,h2⟩:=h.jf id hid;refine ⟨?_,by omega⟩;simp only [Env.put];rw [ah (by omega)];exact h1
theorem St.alloc {P:Program} {η:Env} {σ:ak} {w:World} (h:SR P η σ w) (o:aY) (oc:Obj) (q:Place) (hq:q.bl=w.heap.size)
 (ho:OR P (η.put σ.next q) q { w with heap:=w.heap.push oc } o):St P η σ w (η.put σ.next q) (σ.new o) { w with heap:=w.heap.push oc }:=by
 have hle:=Env.Eu h q;have hat:∀k,k < w.heap.size->(w.heap.push oc)[k]? = w.heap[k]?:=λk hk=>by rw [LY,ah (by omega)]
 have abv:∀b o,η.ro b=some o->b < w.heap.size:=λb o hb=>tu (h.iI b o hb);refine ⟨hle,⟨?_, ?_, ?_,Env.adu h q (IG _), ?_,λb o hb=>?_,λid o1 p a1 a2 a3=>?_,λp hp=>(h.tabs p hp).mono hle⟩,by simp,λbl hbl _=>hat bl hbl, ?_,rfl,rfl,rfl,rfl,Nat.le_succ _, ?_,λ_ h=>.inl h⟩;rotate_right
 ·rintro id (⟨p,hp⟩ | hg)
  ·simp only [Env.put] at hp
   split at hp
   ·next e=>subst e;exact .inr ⟨Nat.le_refl _,IG _⟩
   ·exact .inl (.inl ⟨p,hp⟩)
  ·exact .inl (.inr hg)
 ·intro g hg;obtain ⟨sz,es,h1⟩:=h.kR g hg;exact ⟨sz,es,hle.pl _ _ h1⟩
 ·intro id p hp
  simp only [Env.put] at hp;show id < σ.next+1
  split at hp
  ·omega
  ·have:=h.dom id p hp;omega
 ·intro id o' ho'
  rw [ak.nY] at ho';split at ho'
  ·next e=>cases ho';subst e;exact .inl ⟨q,by simp [Env.put],ho⟩
  ·exact ((h.live id o' ho').heap (w:=w) (λp _ hr=>hat _ hr.lt)).mono hle
 ·intro id o1 id' o2 p p' h1 h2 h3 h4 h5 h6
  rw [ak.nY] at h1 h3;simp only [Env.put] at h5 h6;split at h1<;>split at h3
  ·omega
  ·next e e'=>
   rw [aj e] at h5;rw [ah e'] at h6;cases h5;have:=(h.at h3 h6).lt;omega
  ·next e e'=>
   rw [ah e] at h5;rw [aj e'] at h6;cases h6;have:=(h.at h1 h5).lt;omega
  ·next e e'=>
   rw [ah e] at h5;rw [ah e'] at h6;exact h.sep id o1 id' o2 p p' h1 h2 h3 h4 h5 h6
 ·exact (hat b (abv b o hb)).trans (h.iI b o hb)
 ·rw [ak.nY] at a1
  simp only [Env.put] at a3 ⊢;split at a1
  ·next e=>
   rw [aj e] at a3;cases a3;cases hro:η.ro q.bl with
   | none=>rfl
   | some o2=>have:=abv _ _ hro;omega
  ·next e=>rw [ah e] at a3;exact h.jQ id o1 p a1 a2 a3
 ·intro id o1 p h1 h2 h3 h4
  rw [ak.nY] at h1;simp only [Env.put] at h4;split at h1
  ·next e=>rw [aj e] at h4;cases h4;left;omega
  ·next e=>rw [ah e] at h4;exact .inr ⟨id,o1,p,h1,h2,h3,h4,rfl⟩
theorem St.write {P:Program} {η:Env} {σ:ak} {w w':World} (h:SR P η σ w) {id:Nat} {o o':aY} {q:Place} (hg:σ.get id=some o) (ho:o.own=true) (hl:σ.lock<=id)
 (hq:η id=some q) (hsz:w'.heap.size=w.heap.size) (hk:∀k,k≠q.bl->w'.heap[k]? = w.heap[k]?) (h1:w'.os=w.os) (h2:w'.tape=w.tape) (h3:w'.output=w.output)
 (hr:OR P η q w' o'):St P η σ w η (σ.put id o') w':=by
 have hro:=h.jQ id o q hg ho hq;refine ⟨Env.le.refl _,⟨h.kR,h.dom, ?_,h.jf, ?_,λb o2 hb=>?_,λid2 o2 p a1 a2 a3=>?_,h.tabs⟩,by omega, ?_, ?_,h1,h2,h3,rfl,dD _,λ_ h=>.inl h,λ_ h=>.inl h⟩
 ·intro id' o2 h4
  rw [ak.get_put] at h4;split at h4
  ·next e=>cases h4;subst e;exact .inl ⟨q,hq,hr⟩
  ·next e=>exact (h.live id' o2 h4).heap (w:=w) λp hp _=>hk _ (h.sep id o id' o2 q p hg ho h4 (λe'=>e e'.symm) hq hp).symm
 ·intro id1 o1 id2 o2 p p' a b c d e f
  rw [ak.get_put] at a c;split at a<;>split at c
  ·omega
  ·next e1 e2=>subst e1;exact h.sep id1 o id2 o2 p p' hg ho c d e f
  ·next e1 e2=>subst e2;exact h.sep id1 o1 id2 o p p' a b hg d e f
  ·exact h.sep id1 o1 id2 o2 p p' a b c d e f
 ·rw [hk b (λe=>by rw [e] at hb;rw [hro] at hb;cases hb)];exact h.iI b o2 hb
 ·rw [ak.get_put] at a1
  split at a1
  ·next e=>subst e;rw [hq] at a3;cases a3;exact hro
  ·exact h.jQ id2 o2 p a1 a2 a3
 ·intro bl hbl hno
  exact hk bl (hno id o q hg ho hl hq).symm
 ·intro id1 o1 p a b c d
  rw [ak.get_put] at a;split at a
  ·next e=>subst e;exact .inr ⟨id1,o,p,hg,ho,hl,d,rfl⟩
  ·exact .inr ⟨id1,o1,p,a,b,c,d,rfl⟩
theorem St.again {P:Program} {η:Env} {σ:ak} {w w':World} (h:SR P η σ w) {id:Nat} {o o':aY} {q q':Place} (hg:σ.get id=some o) (ho:o.own=true) (hl:σ.lock<=id)
 (hq:η id=some q) (hq':q'.bl=q.bl) (hsz:w'.heap.size=w.heap.size) (hk:∀k,k≠q.bl->w'.heap[k]? = w.heap[k]?) (h1:w'.os=w.os) (h2:w'.tape=w.tape) (h3:w'.output=w.output)
 (hr:OR P (η.put σ.next q') q' w' o'):St P η σ w (η.put σ.next q') ((σ.kill id).new o') w':=by
 have hle:=Env.Eu h q';have hid:id < σ.next:=h.dom id q hq;have get:∀k,((σ.kill id).new o').get k=if k=σ.next then some o' else if k=id then none else σ.get k:=λk=>by
  rw [ak.nY,ak.vS];rfl
 have hro:=h.jQ id o q hg ho hq;refine ⟨hle,⟨?_, ?_, ?_,Env.adu h q' (IG _), ?_,λb o2 hb=>?_,λid2 o2 p a1 a2 a3=>?_,λp hp=>(h.tabs p hp).mono hle⟩,by omega, ?_, ?_,h1,h2,h3,rfl,Nat.le_succ _, ?_,λ_ h=>.inl h⟩;rotate_right
 ·rintro id (⟨p,hp⟩ | hg)
  ·simp only [Env.put] at hp
   split at hp
   ·next e=>subst e;exact .inr ⟨Nat.le_refl _,IG _⟩
   ·exact .inl (.inl ⟨p,hp⟩)
  ·exact .inl (.inr hg)
 ·intro g hg;obtain ⟨sz,es,h1⟩:=h.kR g hg;exact ⟨sz,es,hle.pl _ _ h1⟩
 ·intro k p hp
  simp only [Env.put] at hp;show k < σ.next+1
  split at hp
  ·omega
  ·have:=h.dom k p hp;omega
 ·intro k o2 h4
  rw [get] at h4;split at h4
  ·next e=>cases h4;subst e;exact .inl ⟨q',by simp [Env.put],hr⟩
  ·split at h4
   ·cases h4
   ·next e e2=>exact ((h.live k o2 h4).heap (w:=w) λp hp _=>hk _ (h.sep id o k o2 q p hg ho h4 (λe'=>e2 e'.symm) hq hp).symm).mono hle
 ·intro id1 o1 id2 o2 p p' a b c d e f
  rw [get] at a c;simp only [Env.put] at e f;split at a<;>split at c
  ·omega
  ·next e1 e2=>
   split at c
   ·cases c
   ·next e3=>
    rw [aj e1] at e;rw [ah e2] at f;cases e;rw [hq'];exact h.sep id o id2 o2 q p' hg ho c (λe'=>e3 e'.symm) hq f
  ·next e1 e2=>
   split at a
   ·cases a
   ·next e3=>
    rw [ah e1] at e;rw [aj e2] at f;cases f;rw [hq'];exact h.sep id1 o1 id o p q a b hg e3 e hq
  ·next e1 e2=>
   split at a
   ·cases a
   ·split at c
    ·cases c
    ·rw [ah e1] at e;rw [ah e2] at f
     exact h.sep id1 o1 id2 o2 p p' a b c d e f
 ·rw [hk b (λe=>by rw [e] at hb;have hb':η.ro q.bl=some o2:=hb;rw [hro] at hb';cases hb')];exact h.iI b o2 hb
 ·rw [get] at a1
  simp only [Env.put] at a3 ⊢;split at a1
  ·next e=>rw [aj e] at a3;cases a3;rw [hq'];exact hro
  ·next e=>
   rw [ah e] at a3;split at a1
   ·cases a1
   ·exact h.jQ id2 o2 p a1 a2 a3
 ·intro bl hbl hno
  exact hk bl (hno id o q hg ho hl hq).symm
 ·intro id1 o1 p a b c d
  rw [get] at a;simp only [Env.put] at d;split at a
  ·next e=>rw [aj e] at d;cases d;exact .inr ⟨id,o,q,hg,ho,hl,hq,hq'.symm⟩
  ·next e=>
   rw [ah e] at d;split at a
   ·cases a
   ·exact .inr ⟨id1,o1,p,a,b,c,d,rfl⟩
theorem SR.sub {P:Program} {η:Env} {σ τ:ak} {w:World} (h:SR P η σ w) (hs:∀id o,τ.get id=some o->σ.get id=some o) (hn:σ.next<=τ.next):SR P η τ w:=
 ⟨h.kR,λid q hq=>uF (h.dom id q hq) hn,λid o ho=>h.live id o (hs id o ho),λid hid=>⟨(h.jf id hid).1,uF (h.jf id hid).2 hn⟩,
  λid o id' o' q q' a b c d e f=>h.sep id o id' o' q q' (hs _ _ a) b (hs _ _ c) d e f,h.iI,λid o q a b c=>h.jQ id o q (hs _ _ a) b c,h.tabs⟩
theorem St.sub {P:Program} {η η':Env} {σ σ' τ:ak} {w w':World} (h:St P η σ w η' σ' w') (hs:∀id o,τ.get id=some o->σ'.get id=some o) (hn:σ'.next<=τ.next) (hl:τ.lock=σ'.lock):St P η σ w η' τ w':=
 { h with rel:=h.rel.sub hs hn,own:=λid o q a b c d=>h.own id o q (hs _ _ a) b c d,lock:=hl.trans h.lock,next:=iF h.next hn,new:=λid hq=>(h.new id hq).imp (λx=>x) λ⟨a,b⟩=>⟨a,uF b hn⟩ }
end
end Go.aN
