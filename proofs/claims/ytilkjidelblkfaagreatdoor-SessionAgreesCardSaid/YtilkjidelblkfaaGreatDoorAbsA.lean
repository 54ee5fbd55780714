/- Ground values, and the nodes by which a symbolic run names them. -/
import Derived.Calls
import Derived.Below
import Derived.Orders
import Derived.LoopN
import Derived.KernelRfl
import Derived.Laws.Strings
import Derived.WalkKit
namespace Go.aJ
set_option linter.unusedSimpArgs false
noncomputable section
abbrev ah:=@if_neg
abbrev aj:=@if_pos
abbrev aI:=@Bool.and_eq_true
abbrev aN:=@Result.andThen_ok
abbrev aO:=@Sem.run_bind
abbrev aT:=@Option.some.injEq
abbrev aX:=@Option.map_eq_some_iff
abbrev aZ:=@Sem.run_pure
abbrev bf:=@Nat.eq_of_beq_eq_true
abbrev bn:=@List.nil_append
abbrev bC:=@List.mem_cons
abbrev bJ:=@List.cons_append
abbrev bM:=@List.getElem?_eq_getElem
abbrev dH:=@Nat.le_refl
abbrev dO:=@List.drop_zero
abbrev dX:=@List.getElem?_eq_some_iff
abbrev eH:=@List.length_drop
abbrev fG:=@List.length_append
abbrev fJ:=@List.drop_eq_nil_of_le
abbrev fK:=@Option.map_some
abbrev fV:=@Bool.false_eq_true
abbrev gU:=@List.getElem_mem
abbrev gV:=@List.map_cons
abbrev iC:=@List.drop_eq_getElem_cons
abbrev iF:=@List.getElem?_map
abbrev iK:=@Nat.blt_eq
abbrev iQ:=@List.getElem?_cons_zero
abbrev iV:=@List.pairwise_cons
abbrev jh:=@List.eq_nil_of_length_eq_zero
abbrev ji:=@List.flatMap_cons
abbrev jk:=@Nat.zero_add
abbrev jv:=@Nat.add_assoc
abbrev jw:=@Nat.le_trans
abbrev jK:=@List.length_cons
abbrev jO:=@List.mem_append
abbrev jR:=@Nat.add_zero
abbrev kH:=@Prod.mk.injEq
abbrev kQ:=@List.getElem?_take
abbrev kR:=@List.length_map
abbrev lu:=@List.take_of_length_le
abbrev lU:=@Bool.or_eq_true
abbrev lV:=@List.getElem?_append_left
abbrev lW:=@List.map_nil
abbrev mM:=@List.length_take
abbrev mP:=@List.lt_irrefl
abbrev mQ:=@List.map_append
abbrev mW:=@List.mem_singleton
abbrev nN:=@Array.getElem?_eq_some_iff
abbrev nO:=@List.mem_map
abbrev oL:=@List.mem_of_getElem?
abbrev pI:=@List.append_nil
abbrev pJ:=@Option.getD_some
abbrev qp:=@List.getElem?_cons_succ
abbrev qw:=@List.getElem?_drop
abbrev qy:=@List.length_nil
abbrev qC:=@Nat.add_mul
abbrev qE:=@Nat.le_of_ble_eq_true
abbrev qX:=@List.drop_drop
abbrev rE:=@congrArg
abbrev sF:=@List.all_cons
abbrev sH:=@Nat.mul_le_mul_right
abbrev sK:=@Sem.run_ite
abbrev tX:=@Array.getElem?_toList
abbrev tY:=@List.getElem?_append_right
abbrev tZ:=@List.getElem?_eq_none
abbrev uj:=@Nat.zero_le
abbrev vF:=@Bool.eq_iff_iff
abbrev vI:=@Nat.lt_of_lt_of_le
abbrev vJ:=@Option.bind_eq_some_iff
abbrev vK:=@Option.getD_none
abbrev wJ:=@Array.getD_eq_getD_getElem?
abbrev wK:=@Bool.not_eq_true'
abbrev wM:=@Int.natCast_zero
abbrev wP:=@Nat.lt_or_ge
abbrev xC:=@BitVec.toNat_ofInt
abbrev xF:=@List.lt_trans
abbrev xG:=@List.mem_range
abbrev yE:=@List.cons.injEq
abbrev yF:=@List.getD_eq_getElem?_getD
abbrev yG:=@List.not_lt
abbrev yH:=@List.take_length
abbrev yI:=@Nat.sub_self
abbrev zT:=@Array.getElem?_eq_getElem
abbrev zU:=@Array.getElem?_setIfInBounds
abbrev zV:=@Bool.false_or
abbrev zX:=@List.mem_cons_of_mem
abbrev zY:=@List.take_add
abbrev zZ:=@List.take_succ_cons
abbrev Aa:=@Option.bind_some
abbrev Cc:=@Bool.or_false
abbrev Ce:=@Int.natCast_add
abbrev Ci:=@List.getElem?_toArray
abbrev Cj:=@List.length_singleton
abbrev D5:=@List.mem_nil_iff
abbrev D7:=@Nat.mul_comm
abbrev D8:=@Nat.one_mul
abbrev D9:=@Nat.sub_zero
abbrev Ea:=@Option.some.inj
abbrev GH:=@Array.getElem?_modify
abbrev GI:=@Array.length_toList
abbrev GU:=@List.drop_take
abbrev GX:=@List.ext_getElem?
abbrev GY:=@List.mem_filter
abbrev GZ:=@List.mem_of_mem_take
abbrev G5:=@List.take_append_drop
abbrev G6:=@Nat.le_of_eq
abbrev G7:=@Nat.pow_succ
abbrev G8:=@Option.isNone_some
abbrev G9:=@Prod.exists
abbrev Ib:=@decide_eq_false
abbrev Ic:=@decide_eq_true
abbrev JE:=@Array.ext'
abbrev JI:=@Int.toNat_natCast
abbrev JJ:=@List.getElem?_of_mem
abbrev JK:=@List.mem_of_mem_drop
abbrev JL:=@List.replicate_succ
abbrev JM:=@List.singleton_append
abbrev JO:=@Nat.add_comm
abbrev JQ:=@Nat.lt_succ_self
abbrev JR:=@Nat.min_eq_left
abbrev JU:=@Nat.mul_pos
abbrev Nw:=@Array.ext_getElem?
abbrev Ny:=@Array.getElem?_push
abbrev Nz:=@Bool.and_true
abbrev NC:=@Bool.true_and
abbrev ND:=@Classical.em
abbrev NH:=@Int.fdiv_eq_ediv_of_nonneg
abbrev NI:=@Int.le_refl
abbrev NK:=@List.le_antisymm
abbrev NM:=@List.length_pos_iff
abbrev NP:=@List.take_append_of_le_length
abbrev NQ:=@Nat.add_sub_cancel'
abbrev NR:=@Nat.mod_eq_of_lt
abbrev NS:=@Nat.pow_le_pow_right
abbrev NT:=@Nat.testBit_or
abbrev QZ:=@of_decide_eq_true
abbrev Tn:=@Array.getElem?_append_left
abbrev Tq:=@Array.mapM_eq_mapM_toList
abbrev Tt:=@Bool.not_true
abbrev Tv:=@List.drop_append_of_le_length
abbrev Tz:=@List.drop_succ_cons
abbrev TA:=@List.findIdx?_cons
abbrev TB:=@List.head?_cons
abbrev TD:=@List.length_eq_one_iff
abbrev TF:=@List.length_filter_le
abbrev TI:=@List.mem_iff_getElem?
abbrev TJ:=@List.pairwise_iff_getElem
abbrev TK:=@List.take_add_one
abbrev TL:=@List.take_zero
abbrev TN:=@Nat.add_sub_cancel_left
abbrev TP:=@Nat.mul_le_mul_left
abbrev TQ:=@Sem.run_map
abbrev Y6:=@Array.eq_empty_of_size_eq_zero
abbrev Y7:=@Array.map_empty
abbrev Y8:=@Array.size_range
abbrev Y9:=@BitVec.toNat_and
abbrev Zh:=@Int.toNat_of_nonneg
abbrev Zi:=@Int.zero_add
abbrev Zj:=@List.Perm.refl
abbrev Zk:=@List.all_append
abbrev Zl:=@List.all_nil
abbrev Zm:=@List.cons_lt_cons_iff
abbrev Zn:=@List.contains_iff_mem
abbrev Zo:=@List.drop_append
abbrev Zp:=@List.drop_sublist
abbrev Zq:=@List.flatMap_append
abbrev Zr:=@List.getElem?_range
abbrev Zt:=@List.length_eq_zero_iff
abbrev Zu:=@List.mapM_cons
abbrev Zv:=@List.mem_flatMap
abbrev Zw:=@List.mem_of_getLast?
abbrev Zx:=@List.mem_or_eq_of_mem_set
abbrev Zy:=@List.mem_replicate
abbrev Zz:=@List.mem_zipIdx_iff_getElem?
abbrev ZA:=@List.nodup_cons
abbrev ZB:=@List.take_take
abbrev ZC:=@Nat.ble_eq_true_of_le
abbrev ZE:=@Nat.eq_zero_or_pos
abbrev ZF:=@Nat.mul_assoc
abbrev ZG:=@Nat.mul_div_cancel
abbrev ZJ:=@Option.map_eq_none_iff
abbrev ZK:=@Option.map_none
abbrev ZL:=@Option.toList_some
abbrev ZP:=@UInt8.toNat_inj
abbrev ZR:=@World.cell?_of_block
abbrev agn:=@Array.getElem?_replicate
abbrev agp:=@Classical.choose_spec
abbrev agr:=@List.concat_eq_append
abbrev ags:=@List.eq_nil_or_concat
abbrev agt:=@List.filter_cons_of_neg
abbrev agu:=@List.filter_cons_of_pos
abbrev agv:=@List.mem_append_right
abbrev agx:=@Nat.and_two_pow_sub_one_eq_mod
abbrev agy:=@Nat.le_mul_of_pos_right
abbrev agz:=@Nat.two_pow_add_eq_or_of_lt
abbrev agA:=@Option.isSome_iff_exists
abbrev agB:=@Option.ne_none_iff_exists'
inductive GV where
 | b (x:Bool)
 | i (k:IntKind) (n:Int)
 | s (x:List UInt8)
 | l (xs:List GV)
 | g (cs:List GV)
 deriving Inhabited
def GV.cells:GV->List GV
 | .g cs=>cs
 | v=>[v]
def GV.scalar:GV->Bool
 | .g _=>false
 | _=>true
def GV.fA (size:Nat) (g:GV):Bool:=Nat.beq g.cells.length size&&g.cells.all GV.scalar
def fO (op:BinOp) (k:IntKind) (a b:Int):Option GV:=
 match op with
 | .add=>some (.i k (k.wrap (a+b)))
 | .sub=>some (.i k (k.wrap (a - b)))
 | .mul=>some (.i k (k.wrap (a * b)))
 | .quo=>if b=0 then none else some (.i k (k.wrap (a.tdiv b)))
 | .rem=>if b=0 then none else some (.i k (a.tmod b))
 | .and=>some (.i k (k.wrap (BitVec.ofInt k.bits a &&& BitVec.ofInt k.bits b).toNat))
 | .or=>some (.i k (k.wrap (BitVec.ofInt k.bits a ||| BitVec.ofInt k.bits b).toNat))
 | .xor=>some (.i k (k.wrap (BitVec.ofInt k.bits a ^^^ BitVec.ofInt k.bits b).toNat))
 | .andNot=>some (.i k (k.wrap (BitVec.ofInt k.bits a &&& ~~~ BitVec.ofInt k.bits b).toNat))
 | .eql=>some (.b (a==b))
 | .neq=>some (.b (a != b))
 | .lss=>some (.b (decide (a < b)))
 | .leq=>some (.b (decide (a<=b)))
 | .gtr=>some (.b (decide (a > b)))
 | .geq=>some (.b (decide (a>=b)))
 | _=>none
def nJ (op:BinOp) (k:IntKind) (a b:Int):Option GV:=
 if b < 0 then none else
 match op with
 | .shl=>some (.i k (k.wrap (a * 2 ^ (min b.toNat k.bits))))
 | .shr=>some (.i k (a.fdiv (2 ^ (min b.toNat k.bits))))
 | _=>none
def vg (op:BinOp) (a b:List UInt8):Option GV:=
 match op with
 | .add=>if ((a.length+b.length:Nat):Int)<=IntKind.i64.max then some (.s (a++b)) else none
 | .eql=>some (.b (a==b))
 | .neq=>some (.b (!(a==b)))
 | .lss=>some (.b (Op.bytesLess a b))
 | .leq=>some (.b (Op.bytesLess a b || a==b))
 | .gtr=>some (.b (!(Op.bytesLess a b || a==b)))
 | .geq=>some (.b (!(Op.bytesLess a b)))
 | _=>none
def kX:List Nat->List GV->List GV->Option Bool
 | [],[],[]=>some true
 | 0::ks,.i k a::l,.i k' b::m=>if k=k' then (kX ks l m).map ((a==b)&&·) else none
 | 1::ks,.s a::l,.s b::m=>(kX ks l m).map ((a==b)&&·)
 | 2::ks,.b a::l,.b b::m=>(kX ks l m).map ((a==b)&&·)
 | _,_,_=>none
def gG (op:BinOp):GV->GV->Option GV
 | .i k a,.i k' b=>match op with
   | .shl=>nJ .shl k a b
   | .shr=>nJ .shr k a b
   | op=>if k=k' then fO op k a b else none
 | .s a,.s b=>vg op a b
 | _,_=>none
def OC (op:BinOp):GV->GV->Option GV
 | .b a,.b b=>match op with
   | .eql=>some (.b (a==b))
   | .neq=>some (.b (!(a==b)))
   | _=>none
 | _,_=>none
def Hz (op:BinOp) (ks:List Nat):GV->GV->Option GV
 | .g a,.g b=>match op with
   | .eql=>(kX ks a b).map .b
   | .neq=>(kX ks a b).map λr=>.b (!r)
   | _=>none
 | _,_=>none
def SL (op:UnOp):GV->Option GV
 | .b a=>match op with
   | .not=>some (.b (!a))
   | _=>none
 | .i k n=>match op with
   | .neg=>some (.i k (k.wrap (0 - n)))
   | .xor=>fO .xor k (if k.signed then -1 else k.max) n
   | _=>none
 | _=>none
def nT:List GV->Option (List UInt8)
 | []=>some []
 | .i .u8 n::rest=>if 0<=n/\n < 256 then (nT rest).map (UInt8.ofNat n.toNat::·) else none
 | _::_=>none
def eU (s:List UInt8):List GV:=s.map λb=>.i .u8 b.toNat
inductive Nd where
 | arg
 | ci (k:IntKind) (n:Int)
 | cb (x:Bool)
 | cs (x:List UInt8)
 | bin (op:BinOp) (a b:Nat)
 | Am (op:BinOp) (a b:Nat)
 | Ap (op:BinOp) (ks:List Nat) (a b:Nat)
 | un (op:UnOp) (a:Nat)
 | mm (big:Bool) (a b:Nat)
 | conv (k:IntKind) (a:Nat)
 | len (a:Nat)
 | slen (a:Nat)
 | BJ (a i:Nat)
 | BQ (a lo hi:Nat)
 | zl (size a lo hi:Nat)
 | idx (a i:Nat)
 | at (size a i:Nat)
 | cell (off a:Nat)
 | mk (l:List Nat)
 | ml (l:List Nat)
 | app (size bytes a b:Nat)
 | upd (size off a i:Nat) (vs:List Nat)
 | rep (size bytes z l c:Nat)
 | bytes (a:Nat)
 | str (a:Nat)
 | BI (a:Nat)
 | same (a b:Nat)
 | wY (a j:Nat)
 | call (f:Nat) (l:List Nat) (j:Nat)
 | Bd (z m k:Nat)
 | Bf (m k:Nat)
 | yj (m k v:Nat)
 deriving Inhabited
def nG:GV->GV->Bool
 | .i k a,.i k' b=>Nat.beq (IntKind.casesOn k 0 1 2 3 4 5 6 7) (IntKind.casesOn k' 0 1 2 3 4 5 6 7)&&a==b
 | .s a,.s b=>a==b
 | _,_=>false
def ig (k:GV):List GV->Option GV
 | []=>none
 | .g [a,v]::l=>if nG k a=true then some v else ig k l
 | _::l=>ig k l
def jZ (k v:GV):List GV->List GV
 | []=>[.g [k,v]]
 | .g [a,u]::l=>if nG k a=true then .g [k,v]::l else .g [a,u]::jZ k v l
 | x::l=>x::jZ k v l
def valsOf (val:Nat->Option GV):List Nat->Option (List GV)
 | []=>some []
 | n::l=>match val n,valsOf val l with
   | some g,some r=>some (g::r)
   | _,_=>none
def GV.int:GV->Option Int
 | .i _ n=>some n
 | _=>none
def putCells (cs:List GV) (off:Nat) (vs:List GV):Option (List GV):=
 if off+vs.length<=cs.length then some (cs.take off++vs++cs.drop (off+vs.length)) else none
def GV.put (x:GV) (off:Nat) (vs:List GV):Option GV:=
 match x with
 | .g cs=>(putCells cs off vs).map .g
 | _=>match off,vs with
   | 0,[v]=>some v
   | _,_=>none
def Nd.den (I:Nat->List GV->Option (List GV)) (val:Nat->Option GV):Nd->Option GV
 | .arg=>none
 | .ci k n=>some (.i k n)
 | .cb x=>some (.b x)
 | .cs x=>some (.s x)
 | .bin op a b=>match val a,val b with
   | some x,some y=>gG op x y
   | _,_=>none
 | .Am op a b=>match val a,val b with
   | some x,some y=>OC op x y
   | _,_=>none
 | .Ap op ks a b=>match val a,val b with
   | some x,some y=>Hz op ks x y
   | _,_=>none
 | .un op a=>match val a with
   | some x=>SL op x
   | none=>none
 | .mm big a b=>match val a,val b with
   | some (.i k x),some (.i k' y)=>if k=k' then some (.i k (if big then (if x < y then y else x) else (if y < x then y else x))) else none
   | _,_=>none
 | .conv k a=>match val a with
   | some (.i _ n)=>some (.i k (k.wrap n))
   | _=>none
 | .len a=>match val a with
   | some (.l xs)=>some (.i .i64 xs.length)
   | _=>none
 | .slen a=>match val a with
   | some (.s x)=>some (.i .i64 x.length)
   | _=>none
 | .BJ a i=>match val a,val i with
   | some (.s x),some (.i _ k)=>if 0<=k then match x[k.toNat]? with
     | some c=>some (.i .u8 c.toNat)
     | none=>none
     else none
   | _,_=>none
 | .BQ a lo hi=>match val a,val lo,val hi with
   | some (.s x),some (.i _ l),some (.i _ h)=>if 0<=l/\l<=h/\h<=x.length then some (.s ((x.take h.toNat).drop l.toNat)) else none
   | _,_,_=>none
 | .zl size a lo hi=>match val a,val lo,val hi with
   | some (.l xs),some (.i _ l),some (.i _ h)=>
     if 0<=l/\l<=h/\h<=xs.length/\(xs.all λx=>Nat.beq x.cells.length size)=true then some (.l ((xs.take h.toNat).drop l.toNat)) else none
   | _,_,_=>none
 | .idx a i=>match val a,val i with
   | some (.l xs),some (.i _ k)=>if 0<=k/\k < xs.length then some (.i .i64 k) else none
   | _,_=>none
 | .at size a i=>match val a,val i with
   | some (.l xs),some (.i _ k)=>if 0<=k then match xs[k.toNat]? with
     | some x=>if x.cells.length=size then some x else none
     | none=>none
     else none
   | _,_=>none
 | .cell off a=>match val a with
   | some g=>match g.cells[off]? with
     | some c=>if c.scalar then some c else none
     | none=>none
   | none=>none
 | .mk l=>match valsOf val l with
   | some gs=>if gs.all GV.scalar then some (.g gs) else none
   | none=>none
 | .ml l=>(valsOf val l).map .l
 | .app size bs a b=>match val a,val b with
   | some (.l xs),some (.l ys)=>
     if ys.all (GV.fA size)=true/\2 * (xs.length+ys.length) * bs<=2 ^ 48/\xs.length+ys.length<=2 ^ 48 then some (.l (xs++ys)) else none
   | _,_=>none
 | .upd size off a i vs=>match val a,val i,valsOf val vs with
   | some (.l xs),some (.i _ k),some gs=>
     if 0<=k/\gs.all GV.scalar=true then match xs[k.toNat]? with
     | some x=>if x.cells.length=size then (x.put off gs).map λy=>.l (xs.set k.toNat y) else none
     | none=>none
     else none
   | _,_,_=>none
 | .rep size Un z l c=>match val z,val l,val c with
   | some x,some (.i _ n),some (.i _ m)=>
     if 0<=n/\n<=m/\Un * m<=2 ^ 48/\m<=2 ^ 60/\x.fA size=true then some (.l (List.replicate n.toNat x)) else none
   | _,_,_=>none
 | .bytes a=>match val a with
   | some (.s x)=>some (.l (eU x))
   | _=>none
 | .str a=>match val a with
   | some (.l xs)=>if xs.length<=2 ^ 48 then (nT xs).map .s else none
   | _=>none
 | .BI a=>match val a with
   | some (.s x)=>some (.s x)
   | _=>none
 | .same a b=>match val a,val b with
   | some (.l xs),some (.l ys)=>if ys.length=xs.length then some (.l ys) else none
   | _,_=>none
 | .wY a j=>match val a with
   | some (.i _ m)=>some (.b (decide (m=(j:Int))))
   | _=>none
 | .call f l j=>match valsOf val l with
   | some gs=>match I f gs with
     | some r=>r[j]?
     | none=>none
   | none=>none
 | .Bd z m k=>match val z,val m,val k with
   | some d,some (.l xs),some g=>some ((ig g xs).getD d)
   | _,_,_=>none
 | .Bf m k=>match val m,val k with
   | some (.l xs),some g=>some (.b (ig g xs).isSome)
   | _,_=>none
 | .yj m k v=>match val m,val k,val v with
   | some (.l xs),some g,some u=>some (.l (jZ g u xs))
   | _,_,_=>none
def tC (o:BinOp):Nat:=BinOp.casesOn o 0 1 2 3 4 5 6 7 8 9 10 11 12 13 14 15 16
theorem aog {o o':BinOp} (h:Nat.beq (tC o) (tC o')=true):o=o':=by
 cases o<;>cases o'<;>first | rfl | (simp [tC] at h)
def Gp (o:UnOp):Nat:=UnOp.casesOn o 0 1 2 3
theorem asN {o o':UnOp} (h:Nat.beq (Gp o) (Gp o')=true):o=o':=by
 cases o<;>cases o'<;>first | rfl | (simp [Gp] at h)
def kc (k:IntKind):Nat:=IntKind.casesOn k 0 1 2 3 4 5 6 7
theorem Qm {o o':IntKind} (h:Nat.beq (kc o) (kc o')=true):o=o':=by
 cases o<;>cases o'<;>first | rfl | (simp [kc] at h)
def vZ:List Nat->List Nat->Bool
 | [],[]=>true
 | a::l,b::m=>Nat.beq a b&&vZ l m
 | _,_=>false
theorem WT:∀ {l m:List Nat},vZ l m=true->l=m
 | [],[],_=>rfl
 | a::l,b::m,h=>by
   simp only [vZ,aI] at h;rw [bf h.1,WT h.2]
 | [],_::_,h=>by simp [vZ] at h
 | _::_,[],h=>by simp [vZ] at h
def yT:List UInt8->List UInt8->Bool
 | [],[]=>true
 | a::l,b::m=>Nat.beq a.toNat b.toNat&&yT l m
 | _,_=>false
theorem Ur:∀ {l m:List UInt8},yT l m=true->l=m
 | [],[],_=>rfl
 | a::l,b::m,h=>by
   simp only [yT,aI] at h;rw [ZP.1 (bf h.1),Ur h.2]
 | [],_::_,h=>by simp [yT] at h
 | _::_,[],h=>by simp [yT] at h
def EP (a b:Int):Bool:=match a,b with
 | .ofNat m,.ofNat n=>Nat.beq m n
 | .negSucc m,.negSucc n=>Nat.beq m n
 | _,_=>false
theorem acF {a b:Int} (h:EP a b=true):a=b:=by
 unfold EP at h;split at h
 ·rw [bf h]
 ·rw [bf h]
 ·cases h
def Nd.eq (x y:Nd):Bool:=
 match x with
 | .arg=>false
 | .ci k n=>match y with | .ci k' n'=>Nat.beq (kc k) (kc k')&&EP n n' | _=>false
 | .cb b=>match y with | .cb b'=>(bif b then b' else !b') | _=>false
 | .cs s=>match y with | .cs s'=>yT s s' | _=>false
 | .bin op a b=>match y with | .bin op' a' b'=>Nat.beq a a'&&Nat.beq b b'&&Nat.beq (tC op) (tC op') | _=>false
 | .Am op a b=>match y with | .Am op' a' b'=>Nat.beq a a'&&Nat.beq b b'&&Nat.beq (tC op) (tC op') | _=>false
 | .Ap op ks a b=>match y with | .Ap op' ks' a' b'=>Nat.beq a a'&&Nat.beq b b'&&Nat.beq (tC op) (tC op')&&vZ ks ks' | _=>false
 | .un op a=>match y with | .un op' a'=>Nat.beq a a'&&Nat.beq (Gp op) (Gp op') | _=>false
 | .mm g a b=>match y with | .mm g' a' b'=>Nat.beq a a'&&Nat.beq b b'&&(bif g then g' else !g') | _=>false
 | .conv k a=>match y with | .conv k' a'=>Nat.beq a a'&&Nat.beq (kc k) (kc k') | _=>false
 | .len a=>match y with | .len a'=>Nat.beq a a' | _=>false
 | .slen a=>match y with | .slen a'=>Nat.beq a a' | _=>false
 | .BJ a i=>match y with | .BJ a' i'=>Nat.beq a a'&&Nat.beq i i' | _=>false
 | .BQ a l h=>match y with | .BQ a' l' h'=>Nat.beq a a'&&Nat.beq l l'&&Nat.beq h h' | _=>false
 | .zl s a l h=>match y with | .zl s' a' l' h'=>Nat.beq s s'&&Nat.beq a a'&&Nat.beq l l'&&Nat.beq h h' | _=>false
 | .idx a i=>match y with | .idx a' i'=>Nat.beq a a'&&Nat.beq i i' | _=>false
 | .at s a i=>match y with | .at s' a' i'=>Nat.beq s s'&&Nat.beq a a'&&Nat.beq i i' | _=>false
 | .cell o a=>match y with | .cell o' a'=>Nat.beq o o'&&Nat.beq a a' | _=>false
 | .mk l=>match y with | .mk l'=>vZ l l' | _=>false
 | .ml l=>match y with | .ml l'=>vZ l l' | _=>false
 | .app z s a b=>match y with | .app z' s' a' b'=>Nat.beq z z'&&Nat.beq s s'&&Nat.beq a a'&&Nat.beq b b' | _=>false
 | .upd s o a i vs=>match y with | .upd s' o' a' i' vs'=>Nat.beq s s'&&Nat.beq o o'&&Nat.beq a a'&&Nat.beq i i'&&vZ vs vs' | _=>false
 | .rep s b z l c=>match y with | .rep s' b' z' l' c'=>Nat.beq s s'&&Nat.beq b b'&&Nat.beq z z'&&Nat.beq l l'&&Nat.beq c c' | _=>false
 | .bytes a=>match y with | .bytes a'=>Nat.beq a a' | _=>false
 | .str a=>match y with | .str a'=>Nat.beq a a' | _=>false
 | .BI a=>match y with | .BI a'=>Nat.beq a a' | _=>false
 | .same a b=>match y with | .same a' b'=>Nat.beq a a'&&Nat.beq b b' | _=>false
 | .wY a j=>match y with | .wY a' j'=>Nat.beq a a'&&Nat.beq j j' | _=>false
 | .call f l j=>match y with | .call f' l' j'=>Nat.beq f f'&&Nat.beq j j'&&vZ l l' | _=>false
 | .Bd z m k=>match y with | .Bd z' m' k'=>Nat.beq z z'&&Nat.beq m m'&&Nat.beq k k' | _=>false
 | .Bf m k=>match y with | .Bf m' k'=>Nat.beq m m'&&Nat.beq k k' | _=>false
 | .yj m k v=>match y with | .yj m' k' v'=>Nat.beq m m'&&Nat.beq k k'&&Nat.beq v v' | _=>false
theorem QT {a b:Nat}:Nat.beq a b=true↔a=b:=⟨Nat.eq_of_beq_eq_true,λh=>by rw [h];exact Nat.beq_refl b⟩
theorem anY {l m:List Nat}:vZ l m=true↔l=m:=⟨WT,λh=>by subst h;induction l with | nil=>rfl | cons a l ih=>simp [vZ,ih]⟩
theorem aax {l m:List UInt8}:yT l m=true↔l=m:=⟨Ur,λh=>by subst h;induction l with | nil=>rfl | cons a l ih=>simp [yT,ih]⟩
theorem acH {a b:Int}:EP a b=true↔a=b:=⟨acF,λh=>by subst h;cases a<;>simp [EP]⟩
theorem ad3 {o o':BinOp}:tC o=tC o'↔o=o':=⟨λh=>aog (QT.2 h),λh=>by rw [h]⟩
theorem asM {o o':UnOp}:Gp o=Gp o'↔o=o':=⟨λh=>asN (QT.2 h),λh=>by rw [h]⟩
theorem aml {o o':IntKind}:kc o=kc o'↔o=o':=⟨λh=>Qm (QT.2 h),λh=>by rw [h]⟩
theorem OB {a b:Bool}:(bif a then b else !b)=true↔a=b:=by cases a<;>cases b<;>simp
theorem Nd.eq_of {x y:Nd} (h:x.eq y=true):x=y/\x≠.arg:=by
 cases x<;>simp only [Nd.eq] at h
 case arg=>cases h
 all_goals
  split at h
  ·simp only [aI,QT,anY,aax,acH,ad3,asM,aml,OB] at h
   simp_all
  ·cases h
class fZ where
 nodes:List Nd
 dec:List (Nat×Bool)
 ka:Nat:=0
def KT (x:Nd):List Nd->Nat->Option Nat
 | [],_=>none
 | y::l,k=>bif x.eq y then some k else KT x l (k+1)
def eP [fZ] (x:Nd):Option Nat:=KT x fZ.nodes 0
def KL (n:Nat):List (Nat×Bool)->Option Bool
 | []=>none
 | p::l=>bif Nat.beq n p.1 then some p.2 else KL n l
def UM [fZ] (n:Nat):Option Bool:=KL n fZ.dec
theorem abK {x:Nd}:∀ {l:List Nd} {k n:Nat},KT x l k=some n->k<=n/\l[n - k]? = some x/\x≠.arg
 | [],_,_,h=>by simp [KT] at h
 | y::l,k,n,h=>by
   simp only [KT] at h;cases he:x.eq y with
   | true=>
     rw [he] at h;simp only [cond_true,aT] at h;subst h;obtain ⟨rfl,h2⟩:=Nd.eq_of he;exact ⟨Nat.le_refl _,by simp,h2⟩
   | false=>
     rw [he] at h;simp only [cond_false] at h;obtain ⟨h1,h2,h3⟩:=abK h;refine ⟨by omega, ?_,h3⟩;have:n - k=(n - (k+1))+1:=by omega
     rw [this,qp];exact h2
theorem akx [fZ] {x:Nd} {n:Nat} (h:eP x=some n):fZ.nodes[n]? = some x/\x≠.arg:=by
 obtain ⟨_,h2,h3⟩:=abK h;exact ⟨by simpa using h2,h3⟩
theorem KN {n:Nat} {b:Bool}:∀ {l:List (Nat×Bool)},KL n l=some b->(n,b)∈l
 | [],h=>by simp [KL] at h
 | p::l,h=>by
   simp only [KL] at h;cases he:Nat.beq n p.1 with
   | true=>
     rw [he] at h;simp only [cond_true,aT] at h;have:p=(n,b):=by rw [<- h,bf he]
     rw [this];simp
   | false=>
     rw [he] at h;simp only [cond_false] at h;exact zX _ (KN h)
end
end Go.aJ
namespace Go.aJ
set_option linter.unusedSimpArgs false
noncomputable section
inductive AV where
 | b (x:Bool)
 | i (k:IntKind) (n:Int)
 | s (x:List UInt8)
 | jB
 | p (id off:Nat)
 | bT
 | sl (id off len:Nat) (cap:Option Nat)
 | oC
 | mp (id:Nat)
 | yw
 | fn (f:FuncId) (first caps:List AV)
 | qM
 | dY (t:TypeId) (v:AV)
 | agg (l:List AV)
 | bY (l:List AV)
 | z (k:IntKind) (lo hi:Int)
 | ro (l:List AV)
 | rp (a:AV) (off:Nat)
 | nd (n:Nat)
 | rx (n off:Nat)
 | sv (id n:Nat)
 | pv (id n off:Nat)
 | pd (id n:Nat)
 deriving Inhabited
structure Place where
 bl:Nat
 ba:Nat
 sz:Nat
 es:Nat
structure Env where
 pl:Nat->Option Place
 ro:Nat->Option Obj
 gh:Nat->Bool
instance:CoeFun Env (λ_=>Nat->Option Place):=⟨Env.pl⟩
class aG extends fZ where
 tabs:List (Nat×List AV)
 I:Nat->List GV->Option (List GV)
 val:Nat->Option GV
 oV:∀ (n:Nat) nd,nodes[n]? = some nd->nd≠.arg->∃g,val n=some g/\nd.den I val=some g
 yY:∀ (n:Nat) (b:Bool),(n,b)∈dec->val n=some (.b b)
def dh (xs:List Value):List Value:=xs.flatMap λx=>x.cells.toList
def CW (cs:Array Value) (off:Nat) (l:List Value):Prop:=∀ (k:Nat) x,l[k]? = some x->cs[off+k]? = some x
mutual
def GR (ro:Nat->Option Obj):GV->Value->Prop
 | .b x,v=>v=.bool x
 | .i k n,v=>v=.int k n
 | .s x,v=>v=.string ⟨⟨x⟩⟩
 | .g cs,v=>∃vs,v=.agg ⟨vs⟩/\aK ro cs vs
 | .l xs,v=>(xs=[]/\∃p,v=.slice p 0 0)\/∃bl off c ys sz,v=.slice (some ⟨bl,off,none⟩) xs.length c/\xs.length<=c/\aK ro xs ys/\(∀x∈ys,x.cells.size=sz)/\
    (xs≠[]->∃cs elem fr,ro bl=some (.cells cs elem fr)/\off+(dh ys).length<=cs.size/\CW cs off (dh ys))
def aK (ro:Nat->Option Obj):List GV->List Value->Prop
 | [],vs=>vs=[]
 | a::l,vs=>∃x xs,vs=x::xs/\GR ro a x/\aK ro l xs
end
variable [aG]
mutual
def VR (η:Env):AV->Value->Prop
 | .b x,v=>v=.bool x
 | .i k n,v=>v=.int k n
 | .s x,v=>v=.string ⟨⟨x⟩⟩
 | .jB,v=>v=.pointer none
 | .p id off,v=>∃q,η id=some q/\v=.pointer (some ⟨q.bl,q.ba+off,none⟩)
 | .bT,v=>v=.slice none 0 0
 | .sl id off len cap,v=>∃q,η id=some q/\len<=cap.getD ((q.sz - off) / q.es)/\v=.slice (some ⟨q.bl,q.ba+off,none⟩) len (cap.getD ((q.sz - off) / q.es))
 | .oC,v=>v=.map none
 | .mp id,v=>∃q,η id=some q/\v=.map (some q.bl)
 | .yw,v=>v=.nilFunc
 | .fn f fi caps,v=>∃us vs,v=.func (.func f) ⟨us⟩ ⟨vs⟩/\aA η fi us/\aA η caps vs
 | .qM,v=>v=.nilIface
 | .dY t a,v=>∃x,v=.iface t x/\VR η a x
 | .agg l,v=>∃vs,v=.agg ⟨vs⟩/\aA η l vs
 | .bY l,v=>∃vs,v=.tuple ⟨vs⟩/\aA η l vs
 | .z k lo hi,v=>∃n:Int,lo<=n/\n<=hi/\v=.int k n
 | .ro l,v=>(l=[]/\∃p,v=.slice p 0 0)\/∃bl off c xs sz,v=.slice (some ⟨bl,off,none⟩) l.length c/\l.length<=c/\aA η l xs/\(∀x∈xs,x.cells.size=sz)/\
    (l≠[]->∃cs elem fr,η.ro bl=some (.cells cs elem fr)/\off+(dh xs).length<=cs.size/\CW cs off (dh xs))
 | .rp a off,v=>∃bl base cs elem fr x,η.ro bl=some (.cells cs elem fr)/\VR η a x/\v=.pointer (some ⟨bl,base+off,none⟩)/\base+x.cells.size<=cs.size/\CW cs base x.cells.toList
 | .nd n,v=>∃g,aG.val n=some g/\g.scalar=true/\GR η.ro g v
 | .rx n off,v=>∃g bl base cs elem fr x,aG.val n=some g/\η.ro bl=some (.cells cs elem fr)/\GR η.ro g x/\v=.pointer (some ⟨bl,base+off,none⟩)/\base+x.cells.size<=cs.size/\CW cs base x.cells.toList
 | .sv id n,v=>∃xs,aG.val n=some (.l xs)/\((∃q,η id=some q/\xs.length<=q.sz / q.es/\v=.slice (some ⟨q.bl,q.ba,none⟩) xs.length (q.sz / q.es))\/(η.gh id=true/\xs=[]/\v=.slice none 0 0))
 | .pv id n off,v=>∃q k i,η id=some q/\aG.val n=some (.i k i)/\v=.pointer (some ⟨q.bl,q.ba+i.toNat * q.es+off,none⟩)
 | .pd id n,v=>∃xs p,aG.val n=some (.l xs)/\v=.pointer p/\(xs≠[]->∃q,η id=some q/\p=some ⟨q.bl,q.ba,none⟩)
def aA (η:Env):List AV->List Value->Prop
 | [],vs=>vs=[]
 | a::l,vs=>∃x xs,vs=x::xs/\VR η a x/\aA η l xs
end
inductive Tr (α:Type) where
 | nil
 | nd (v:Option α) (l r:Tr α)
 deriving Inhabited
def Tr.val {α:Type} (t:Tr α):Option α:=Tr.casesOn t none (λv _ _=>v)
def Tr.Ba {α:Type} (t:Tr α):Tr α:=Tr.casesOn t .nil (λ_ l _=>l)
def Tr.Bz {α:Type} (t:Tr α):Tr α:=Tr.casesOn t .nil (λ_ _ r=>r)
def Tr.uK {α:Type} (p:List Bool):Tr α->Option α:=List.rec (motive:=λ_=>Tr α->Option α) Tr.val (λb _ ih t=>ih (bif b then t.Ba else t.Bz)) p
def Tr.Gh {α:Type} (x:Option α) (p:List Bool):Tr α->Tr α:=List.rec (motive:=λ_=>Tr α->Tr α) (λt=>.nd x t.Ba t.Bz)
 (λb _ ih t=>bif b then .nd t.val (ih t.Ba) t.Bz else .nd t.val t.Ba (ih t.Bz)) p
def MB (f:Nat):Nat->List Bool:=Nat.rec (motive:=λ_=>Nat->List Bool) (λ_=>[]) (λ_ ih n=>bif Nat.beq n 0 then [] else Nat.beq ((n - 1) % 2) 0::ih ((n - 1) / 2)) f
def path (n:Nat):List Bool:=MB (Nat.log2 n+1) n
def Tr.get {α:Type} (t:Tr α) (n:Nat):Option α:=Tr.uK (path n) t
def Tr.set {α:Type} (t:Tr α) (n:Nat) (x:Option α):Tr α:=Tr.Gh x (path n) t
inductive aY where
 | cells (c:List AV) (et:TypeId) (rw opn:Bool)
 | iter (s:List UInt8) (pos:Nat)
 | map (es:List (AV×AV))
 | iterM (m:Option Nat)
 | vec (n:Nat) (et:TypeId) (f:Bool)
 | smap (n:Nat) (kk:Option IntKind) (sz:Option Nat)
 | pmap (es:List (List UInt8×AV))
 deriving Inhabited
structure au where
 h:Tr aY
 next:Nat
 lock:Nat
 deriving Inhabited
def au.get (σ:au) (id:Nat):Option aY:=σ.h.get id
def au.put (σ:au) (id:Nat) (o:aY):au:={ σ with h:=σ.h.set id (some o) }
def au.kill (σ:au) (id:Nat):au:={ σ with h:=σ.h.set id none }
def au.new (σ:au) (o:aY):au:={ σ with h:=σ.h.set σ.next (some o),next:=σ.next+1 }
def rX {α β:Type} (f:α->Option β):List α->Option (List β)
 | []=>some []
 | x::xs=>match f x with
   | none=>none
   | some y=>match rX f xs with
     | none=>none
     | some ys=>some (y::ys)
def AV.toVal:Nat->AV->Option Value
 | 0,_=>none
 | n+1,a=>
   match a with
   | .b x=>some (.bool x)
   | .i k x=>some (.int k x)
   | .s x=>some (.string ⟨⟨x⟩⟩)
   | .jB=>some (.pointer none)
   | .bT=>some (.slice none 0 0)
   | .oC=>some (.map none)
   | .yw=>some .nilFunc
   | .qM=>some .nilIface
   | .dY t v=>(AV.toVal n v).map (.iface t)
   | .agg l=>(rX (AV.toVal n) l).map λvs=>.agg ⟨vs⟩
   | .bY l=>(rX (AV.toVal n) l).map λvs=>.tuple ⟨vs⟩
   | _=>none
def kN:Nat->Value->Option AV
 | 0,_=>none
 | n+1,v=>
   match v with
   | .bool x=>some (.b x)
   | .int k x=>some (.i k x)
   | .string s=>some (.s s.data.toList)
   | .pointer none=>some .jB
   | .slice none 0 0=>some .bT
   | .map none=>some .oC
   | .nilFunc=>some .yw
   | .nilIface=>some .qM
   | .iface t x=>(kN n x).map (.dY t)
   | .agg cs=>(rX (kN n) cs.toList).map .agg
   | .tuple cs=>(rX (kN n) cs.toList).map .bY
   | _=>none
def oH {α:Type} (P:Program):Sem α->Option α
 | .pure a=>some a
 | .program k=>oH P (k P)
 | .mark _ k=>oH P k
 | _=>none
structure aV where
 t:Tr AV
 n:Nat
 gn:Nat
def aV.eval (a:aV):Operand->Option AV
 | .tmp t=>a.t.get t
 | .const v=>kN 4 v
 | .global g=>if g < a.gn then some (.p g 0) else none
 | .func f=>some (.fn f [] [])
def aV.put (a:aV) (dst:Option Tmp) (v:Option AV):Option aV:=
 match dst with
 | none=>some a
 | some d=>if d < a.n then some { a with t:=a.t.set d v } else none
def AV.cells:AV->List AV
 | .agg l=>l
 | v=>[v]
def AV.lJ:AV->Bool
 | .agg _ | .bY _=>false
 | _=>true
def xB (P:Program) (t:TypeId):Option (List AV):=
 match P.info? t with
 | some i=>match i.zero with
   | some z=>(kN 4 z).map AV.cells
   | none=>none
 | none=>none
def nD (P:Program) (t:TypeId):Option Bool:=
 match P.underlying t with
 | some (.struct _) | some (.array _ _)=>some true
 | some _=>some false
 | none=>none
def sizeT (P:Program) (t:TypeId):Option Nat:=(P.info? t).map (·.size)
def takeN (l:List AV) (off n:Nat):Option (List AV):=
 let r:=(l.drop off).take n
 if r.length=n then some r else none
def yA (l:List AV) (off:Nat) (vs:List AV):Option (List AV):=
 if off+vs.length<=l.length then some (l.take off++vs++l.drop (off+vs.length)) else none
def yM (place:Nat->Option (Nat×Nat)) (cells:List AV):List (Nat×AV)->Option (List AV)
 | []=>some cells
 | (i,v)::rest=>
   match place i with
   | none=>none
   | some (off,size)=>
     if v.cells.length=size then
      match yA cells off v.cells with
      | some cs=>yM place cs rest
      | none=>none
     else none
def Dj (ev:Operand->Option AV):List (Nat×Operand)->Option (List (Nat×AV))
 | []=>some []
 | (i,x)::rest=>match ev x,Dj ev rest with
   | some v,some r=>some ((i,v)::r)
   | _,_=>none
def y8 (ev:Operand->Option AV):List Operand->Option (List AV)
 | []=>some []
 | x::rest=>match ev x,y8 ev rest with
   | some v,some r=>some (v::r)
   | _,_=>none
def Oi (P:Program) (t:TypeId) (cs:List AV) (off:Nat):Option AV:=
 match nD P t with
 | some true=>match sizeT P t with
   | some n=>(takeN cs off n).map .agg
   | none=>none
 | some false=>cs[off]?
 | none=>none
def MS (P:Program):List Field->Option (List (Nat×Nat))
 | []=>some []
 | f::fs=>match sizeT P f.type,MS P fs with
   | some n,some r=>some ((f.offset,n)::r)
   | _,_=>none
def NZ (P:Program) (t:TypeId) (parts:List (Nat×AV)):Option AV:=
 match xB P t,P.underlying t with
 | some zero,some (.struct fields)=>
   match MS P fields.toList with
   | some places=>(yM (λi=>places[i]?) zero parts).map .agg
   | none=>none
 | some zero,some (.array _ elem)=>
   match sizeT P elem with
   | some size=>(yM (λi=>some (i * size,size)) zero parts).map .agg
   | none=>none
 | _,_=>none
def iU (n:Nat) (zero:List AV):List AV:=(List.replicate n zero).flatten
def uq (P:Program) (t:TypeId) (σ:au) (a:AV):Option AV:=
 match a with
 | .p id off=>
   match σ.get id with
   | some (.cells c _ _ _)=>
     match nD P t with
     | some true=>match sizeT P t with
       | some n=>(takeN c off n).map .agg
       | none=>none
     | some false=>c[off]?
     | none=>none
   | _=>none
 | .rp e off=>
   match nD P t with
   | some true=>match sizeT P t with
     | some n=>(takeN e.cells off n).map .agg
     | none=>none
   | some false=>e.cells[off]?
   | none=>none
 | _=>none
def CP (P:Program) (t:TypeId) (σ:au) (a v:AV):Option au:=
 match a with
 | .p id off=>
   match σ.get id with
   | some (.cells c et true opn)=>
     if σ.lock<=id/\sizeT P t=some v.cells.length/\v.cells.all AV.lJ then
      (yA c off v.cells).map λc'=>σ.put id (.cells c' et true opn)
     else none
   | _=>none
 | _=>none
def uo:AV->Option Int
 | .i _ n=>some n
 | _=>none
def yN (len:Nat) (room:Nat->Bool):Option AV->Option Nat
 | none=>some len
 | some v=>match uo v with
   | some h=>if 0<=h/\room h.toNat=true then some h.toNat else none
   | none=>none
def Hg (h:Nat):Option AV->Option Nat
 | none=>some 0
 | some v=>match uo v with
   | some l=>if 0<=l/\l<=h then some l.toNat else none
   | none=>none
def vO (len:Nat) (room:Nat->Bool) (low high:Option AV):Option (Nat×Nat):=
 match yN len room high with
 | none=>none
 | some h=>match Hg h low with
   | none=>none
   | some l=>some (l,h)
def FM (ev:Operand->Option AV):Option Operand->Option (Option AV)
 | none=>some none
 | some x=>(ev x).map some
end
end Go.aJ
namespace Go.aJ
set_option linter.unusedSimpArgs false
noncomputable section
variable [fZ]
set_option linter.unusedSectionVars false
set_option linter.unusedVariables false
def bytesOf:List AV->Option (List UInt8)
 | []=>some []
 | .i .u8 n::rest=>if 0<=n/\n < 256 then (bytesOf rest).map (UInt8.ofNat n.toNat::·) else none
 | _::_=>none
def uz (s:List UInt8):List AV:=s.map λb=>.i .u8 b.toNat
def uY (a:AV):Option Value:=a.toVal 4
def uG (P:Program) (t:TypeId):Option (TypeId×Nat×Nat×List AV):=
 match P.underlying t with
 | some (.slice e)=>match P.info? e,xB P e with
   | some i,some z=>if e≠0/\z.length=i.size then some (e,i.size,i.bytes,z) else none
   | _,_=>none
 | _=>none
def xw (σ:au) (size:Nat):AV->Option (Nat×List AV)
 | .bT=>some (0,[])
 | .sl id off len _=>match σ.get id with
   | some (.cells c _ _ _)=>(takeN c off (len * size)).map λr=>(len,r)
   | _=>none
 | .s x=>if size=1 then some (x.length,uz x) else none
 | .ro l=>if l.all (λa=>a.cells.length==size)=true then some (l.length,l.flatMap AV.cells) else none
 | _=>none
def Dv (P:Program) (t:TypeId):Bool:=
 match P.underlying t with
 | some (.slice _) | some .string=>true
 | _=>false
def sliceLen:AV->Nat
 | .sl _ _ n _=>n
 | _=>0
def nP (e size bytes:Nat) (s:AV) (n:Nat) (new:List AV) (σ:au):Option (AV×au):=
 if size=0\/new.all AV.lJ=false\/¬ (2 * (sliceLen s+n) * bytes<=2 ^ 48/\sliceLen s+n<=2 ^ 48) then none else
 match s with
 | .bT=>
   if n=0 then some (.bT,σ) else some (.sl σ.next 0 n none,σ.new (.cells new e true true))
 | .sl id off len (some cap)=>
   if len+n<=cap then
    if n=0 then some (s,σ) else
    match σ.get id with
    | some (.cells c et true opn)=>
      if σ.lock<=id then
       (yA c (off+len * size) new).map λc'=>(.sl id off (len+n) (some cap),σ.put id (.cells c' et true opn))
      else none
    | _=>none
   else
    match σ.get id with
    | some (.cells c _ _ _)=>(takeN c off (len * size)).map λold=>(.sl σ.next 0 (len+n) none,σ.new (.cells (old++new) e true true))
    | _=>none
 | .sl id off len none=>
   if n=0 then some (s,σ)
   else if σ.lock<=id then
    match σ.get id with
    | some (.cells c et true true)=>if et=e then (takeN c off (len * size)).map λold=>(.sl σ.next 0 (len+n) none,(σ.kill id).new (.cells (old++new) e true true)) else none
    | _=>none
   else none
 | .ro l=>if n=0 then some (.ro l,σ) else none
 | _=>none
def TW (P:Program) (argTypes:Array TypeId) (s x:AV) (σ:au):Option (AV×au):=
 match argTypes.toList with
 | [t,t1]=>
   match uG P t,Dv P t1 with
   | some (e,size,bytes,_),true=>
     match xw σ size x with
     | some (n,new)=>nP e size bytes s n new σ
     | none=>none
   | _,_=>none
 | _=>none
def Oa (P:Program) (σ:au) (t:TypeId) (x:AV):Option AV:=
 match P.underlying t,x with
 | some .string,.s s=>some (.i .i64 s.length)
 | some (.slice _),.bT=>some (.i .i64 0)
 | some (.slice _),.sl _ _ n _=>some (.i .i64 n)
 | some (.slice _),.ro l=>some (.i .i64 l.length)
 | some (.map _ _),.oC=>some (.i .i64 0)
 | some (.map _ _),.mp id=>match σ.get id with
   | some (.map es)=>some (.i .i64 es.length)
   | _=>none
 | some (.array n _),_=>some (.i .i64 n)
 | _,_=>none
def Oc (P:Program) (t:TypeId) (len cap:AV) (σ:au):Option (AV×au):=
 match uG P t,uo len,uo cap with
 | some (e,size,bytes,z),some l,some c=>
   if 0<=l/\l<=c/\bytes * c<=2 ^ 48/\c<=2 ^ 60 then
    some (.sl σ.next 0 l.toNat (some c.toNat),σ.new (.cells (if size=0 then [] else iU c.toNat z) e true false))
   else none
 | _,_,_=>none
def Oj (size:Nat) (es:List AV) (l h:Nat):Option AV:=
 if h=l then some (.ro []) else
 match es[0]? with
 | some a=>if a.cells.length=size then some (.ro ((es.take h).drop l)) else none
 | none=>none
def yP (P:Program) (t:TypeId) (σ:au) (x:AV) (lo hi:Option AV):Option AV:=
 match P.underlying t,x with
 | some .string,.s s=>
   (vO s.length (λh=>Nat.ble h s.length) lo hi).map λ(l,h)=>.s ((s.take h).drop l)
 | some (.slice e),.sl id off len cap=>
   match sizeT P e,cap with
   | some size,some c=>
     (vO len (λh=>Nat.ble h c) lo hi).bind λ(l,h)=>
      if c=l then some (.sl id off (h - l) (some 0)) else some (.sl id (off+l * size) (h - l) (some (c - l)))
   | some size,none=>
     match σ.get id with
     | some (.cells _ et _ true)=>if et=e then
        (vO len (λh=>Nat.ble h len) lo hi).bind λ(l,h)=>
         if l < len then some (.sl id (off+l * size) (h - l) none) else if l=0 then some (.sl id off (h - l) none) else if h=l then some (.ro []) else none
       else none
     | _=>none
   | none,_=>none
 | some (.slice e),.bT=>match sizeT P e with
   | some _=>(vO 0 (λh=>Nat.ble h 0) lo hi).map λ_=>.bT
   | none=>none
 | some (.slice e),.ro es=>match sizeT P e with
   | some size=>(vO es.length (λh=>Nat.ble h es.length) lo hi).bind λ(l,h)=>Oj size es l h
   | none=>none
 | some (.array n e),.p id off=>match sizeT P e with
   | some size=>(vO n (λh=>Nat.ble h n) lo hi).map λ(l,h)=>
      if n=l then .sl id off (h - l) (some 0) else .sl id (off+l * size) (h - l) (some (n - l))
   | none=>none
 | _,_=>none
def N9 (P:Program) (t:TypeId) (x:AV) (f:Nat):Option AV:=
 match P.underlying t,x with
 | some (.struct fields),.p id off=>
   match fields[f]? with
   | some fd=>match sizeT P fd.type with
     | some n=>if n=0 then none else some (.p id (off+fd.offset))
     | none=>none
   | none=>none
 | some (.struct fields),.rp a off=>
   match fields[f]? with
   | some fd=>match sizeT P fd.type with
     | some n=>if n=0 then none else some (.rp a (off+fd.offset))
     | none=>none
   | none=>none
 | _,_=>none
def N8 (P:Program) (t:TypeId) (x:AV) (f:Nat):Option AV:=
 match P.underlying t,x with
 | some (.struct fields),.agg cs=>
   match fields[f]? with
   | some fd=>Oi P fd.type cs fd.offset
   | none=>none
 | _,_=>none
def wV (P:Program) (t:TypeId) (x ix:AV):Option AV:=
 match P.underlying t,x,uo ix with
 | some (.slice e),.sl id off len _,some k=>
   match sizeT P e with
   | some size=>if 0<=k/\k < len then some (.p id (off+k.toNat * size)) else none
   | none=>none
 | some (.array len e),.p id off,some k=>
   match sizeT P e with
   | some size=>if 0<=k/\k < len then some (.p id (off+k.toNat * size)) else none
   | none=>none
 | some (.slice e),.ro l,some k=>
   match sizeT P e with
   | some size=>if 0<=k then match l[k.toNat]? with
     | some a=>if a.cells.length=size then some (.rp a 0) else none
     | none=>none
     else none
   | none=>none
 | some (.array len e),.rp a off,some k=>
   match sizeT P e with
   | some size=>if 0<=k/\k < len then some (.rp a (off+k.toNat * size)) else none
   | none=>none
 | _,_,_=>none
def CO (P:Program) (t:TypeId) (x ix:AV):Option AV:=
 match P.underlying t,x,uo ix with
 | some .string,.s s,some k=>
   if 0<=k then match s[k.toNat]? with
    | some c=>some (.i .u8 c.toNat)
    | none=>none
   else none
 | some (.array len e),.agg cs,some k=>
   match sizeT P e with
   | some size=>if 0<=k/\k < len then Oi P e cs (k.toNat * size) else none
   | none=>none
 | _,_,_=>none
def wU (P:Program) (src dst:TypeId) (x:AV) (σ:au):Option (AV×au):=
 match P.underlying src,P.underlying dst,x with
 | some _,some (.int k),.i _ n=>some (.i k (k.wrap n),σ)
 | some .string,some .string,.s s=>some (.s s,σ)
 | some .string,some (.slice e),.s s=>
   match P.underlying e with
   | some (.int .u8)=>if e≠0/\sizeT P e=some 1 then some (.sl σ.next 0 s.length none,σ.new (.cells (uz s) e true true)) else none
   | _=>none
 | some (.slice e),some .string,.bT=>
   match P.underlying e with
   | some (.int .u8)=>some (.s [],σ)
   | _=>none
 | some (.slice e),some .string,.sl id off len _=>
   match P.underlying e,σ.get id with
   | some (.int .u8),some (.cells c _ _ _)=>match takeN c off len with
     | some r=>(bytesOf r).map λb=>(.s b,σ)
     | none=>none
   | _,_=>none
 | some (.slice e),some .string,.ro l=>
   match P.underlying e with
   | some (.int .u8)=>(bytesOf l).map λb=>(.s b,σ)
   | _=>none
 | some (.pointer t),some .unsafePointer,.p id off=>
   match σ.get id,sizeT P t with
   | some (.cells c et _ false),some n=>if et≠0/\off < c.length/\n≠0 then some (.p id off,σ) else none
   | _,_=>none
 | some .unsafePointer,some (.pointer u),.p id off=>
   match σ.get id,sizeT P u with
   | some (.cells c et _ false),some _=>if et≠0/\liesAt P P.depth et (c.length / P.cellsOf et) off u 1=true then some (.p id off,σ) else none
   | _,_=>none
 | _,_,_=>none
def OZ (op:BinOp) (a b c d:Int):Option AV:=
 match op with
 | .lss=>if b < c then some (.b true) else if d<=a then some (.b false) else none
 | .leq=>if b<=c then some (.b true) else if d < a then some (.b false) else none
 | .gtr=>if d < a then some (.b true) else if b<=c then some (.b false) else none
 | .geq=>if d<=a then some (.b true) else if b < c then some (.b false) else none
 | .eql=>if b < c\/d < a then some (.b false) else none
 | .neq=>if b < c\/d < a then some (.b true) else none
 | _=>none
def qY (P:Program) (op:BinOp) (t:TypeId) (x y:Operand) (a b:AV):Option AV:=
 match op,a,b with
 | .eql,.p id off,.p id' off'=>match P.underlying t with
   | some (.pointer e)=>match sizeT P e with
     | some n=>if id=id'/\n≠0 then some (.b (off==off')) else none
     | none=>none
   | _=>none
 | .neq,.p id off,.p id' off'=>match P.underlying t with
   | some (.pointer e)=>match sizeT P e with
     | some n=>if id=id'/\n≠0 then some (.b (!(off==off'))) else none
     | none=>none
   | _=>none
 | .eql,.p _ _,.jB | .eql,.jB,.p _ _=>match P.underlying t with
   | some (.pointer _)=>some (.b false)
   | _=>none
 | .neq,.p _ _,.jB | .neq,.jB,.p _ _=>match P.underlying t with
   | some (.pointer _)=>some (.b true)
   | _=>none
 | .eql,.ro (_::_),.bT | .eql,.bT,.ro (_::_)=>match P.underlying t with
   | some (.slice _)=>some (.b false)
   | _=>none
 | .neq,.ro (_::_),.bT | .neq,.bT,.ro (_::_)=>match P.underlying t with
   | some (.slice _)=>some (.b true)
   | _=>none
 | .eql,.rp _ _,.jB | .eql,.jB,.rp _ _=>match P.underlying t with
   | some (.pointer _)=>some (.b false)
   | _=>none
 | .neq,.rp _ _,.jB | .neq,.jB,.rp _ _=>match P.underlying t with
   | some (.pointer _)=>some (.b true)
   | _=>none
 | .eql,.sl ..,.bT | .eql,.bT,.sl ..=>match P.underlying t with
   | some (.slice _)=>some (.b false)
   | _=>none
 | .neq,.sl ..,.bT | .neq,.bT,.sl ..=>match P.underlying t with
   | some (.slice _)=>some (.b true)
   | _=>none
 | .eql,.dY _ _,.qM | .eql,.qM,.dY _ _=>match P.underlying t with
   | some (.interface _)=>some (.b false)
   | _=>none
 | .neq,.dY _ _,.qM | .neq,.qM,.dY _ _=>match P.underlying t with
   | some (.interface _)=>some (.b true)
   | _=>none
 | .eql,.mp _,.oC | .eql,.oC,.mp _=>match P.underlying t with
   | some (.map _ _)=>some (.b false)
   | _=>none
 | .neq,.mp _,.oC | .neq,.oC,.mp _=>match P.underlying t with
   | some (.map _ _)=>some (.b true)
   | _=>none
 | _,.z k lo hi,.i k' n=>if k=k' then OZ op lo hi n n else none
 | _,.i k n,.z k' lo hi=>if k=k' then OZ op n n lo hi else none
 | _,_,_=>
   match uY a,uY b with
   | some u,some v=>(oH P (do eqGuard op t x y u v;binOp op t u v)).bind (kN 4)
   | _,_=>none
def LH:AV->AV->Option Bool
 | .i k a,.i k' b=>if k=k' then some (a==b) else none
 | .s a,.s b=>some (a==b)
 | .b a,.b b=>some (a==b)
 | .z k lo hi,.i k' b=>if k=k'/\(b < lo\/hi < b) then some false else none
 | _,_=>none
def y9 (k:AV):List (AV×AV)->Nat->Option (Option (Nat×AV))
 | [],_=>some none
 | e::es,i=>match LH k e.1 with
   | some true=>some (some (i,e.2))
   | some false=>y9 k es (i+1)
   | none=>none
def Ip (P:Program) (t:TypeId) (k:AV):Bool:=
 match P.underlying t,k with
 | some (.int _),.i _ _ | some (.int _),.z _ _ _ | some .string,.s _ | some .bool,.b _=>true
 | _,_=>false
def Ob (P:Program) (t:TypeId) (m k:AV) (ok:Bool) (σ:au):Option AV:=
 match P.underlying t with
 | some (.map kt et)=>
   match (match m with | .oC=>some [] | .mp id=>(match σ.get id with | some (.map es)=>some es | _=>none) | _=>none) with
   | some es=>
     if Ip P kt k then
      match y9 k es 0 with
      | some (some (_,v))=>some (if ok then .bY [v,.b true] else v)
      | some none=>
        match P.info? et with
        | some i=>match i.zero with
          | some z=>(kN 4 z).map λz=>if ok then .bY [z,.b false] else z
          | none=>none
        | none=>none
      | none=>none
     else none
   | none=>none
 | _=>none
def Hl (P:Program) (t:TypeId) (m k v:AV) (σ:au):Option au:=
 match P.underlying t,m with
 | some (.map kt _),.mp id=>
   match σ.get id with
   | some (.map es)=>
     if σ.lock<=id/\Ip P kt k then
      match y9 k es 0 with
      | some (some (i,_))=>some (σ.put id (.map (es.set i (k,v))))
      | some none=>some (σ.put id (.map (es++[(k,v)])))
      | none=>none
     else none
   | _=>none
 | _,_=>none
def ER (P:Program) (t:TypeId):Option Bool:=
 match P.underlying t with
 | some (.interface _)=>some true
 | some _=>some false
 | none=>none
def Ol (P:Program) (x:AV) (t:TypeId) (ok:Bool):Option AV:=
 match ER P t,x with
 | some false,.dY u v=>
   if u=t then some (if ok then .bY [v,.b true] else v)
   else if ok then match P.info? t with
    | some i=>match i.zero with
      | some z=>(kN 4 z).map λz=>.bY [z,.b false]
      | none=>none
    | none=>none
   else none
 | some false,.qM=>
   if ok then match P.info? t with
    | some i=>match i.zero with
      | some z=>(kN 4 z).map λz=>.bY [z,.b false]
      | none=>none
    | none=>none
   else none
 | _,_=>none
def Og (it:AV) (σ:au):Option (AV×au):=
 match it with
 | .p id 0=>
   match σ.get id with
   | some (.iter s pos)=>
     if σ.lock<=id then
      if pos < s.length then
       let r:=Utf8.decode ⟨⟨s⟩⟩ pos
       some (.bY [.b true,.i .i64 pos,.i .i32 r.1],σ.put id (.iter s (pos+r.2)))
      else some (.bY [.b false],σ)
     else none
   | _=>none
 | _=>none
def Ua (P:Program) (argTypes:Array TypeId) (d x:AV) (σ:au):Option (AV×au):=
 match argTypes[0]? with
 | some t=>
   match uG P t,d with
   | some (_,size,_,_),.sl id off dLen _=>
     match xw σ size x,σ.get id with
     | some (n,new),some (.cells c et true opn)=>
       let k:=Nat.min n dLen
       if size=0 then none else
       if σ.lock<=id/\new.all AV.lJ then
        (yA c off (new.take (k * size))).map λc'=>(.i .i64 k,σ.put id (.cells c' et true opn))
       else none
     | _,_=>none
   | some (_,size,_,_),.bT=>match xw σ size x with
     | some _=>some (.i .i64 0,σ)
     | none=>none
   | _,_=>none
 | none=>none
def TY (P:Program) (t:TypeId) (x:AV) (σ:au):Option (AV×au):=
 match P.underlying t,x with
 | some (.slice _),.bT=>some (.bY [],σ)
 | some (.slice _),.ro []=>some (.bY [],σ)
 | some (.slice e),.sl id off n _=>
   if n=0 then some (.bY [],σ) else
   match xB P e,σ.get id with
   | some z,some (.cells c et true opn)=>
     if σ.lock<=id/\z.all AV.lJ then
      (yA c off (iU n z)).map λc'=>(.bY [],σ.put id (.cells c' et true opn))
     else none
   | _,_=>none
 | some (.map _ _),.oC=>some (.bY [],σ)
 | some (.map _ _),.mp id=>match σ.get id with
   | some (.map _)=>if σ.lock<=id then some (.bY [],σ.put id (.map [])) else none
   | _=>none
 | _,_=>none
def UK (m m':Nat):Bool:=match fZ.nodes[m]?,fZ.nodes[m']? with
 | some (.ci k a),some (.ci k' b)=>Nat.beq (kc k) (kc k')&&!(EP a b)
 | some (.cs a),some (.cs b)=>!(yT a b)
 | _,_=>false
def DJ (n m:Nat):List (Nat×Bool)->Bool
 | []=>false
 | p::l=>(bif p.2 then (match fZ.nodes[p.1]? with
   | some (.bin .eql n' m')=>Nat.beq n n'&&UK m m'
   | _=>false) else false) || DJ n m l
def CZ:BinOp->Option BinOp
 | .eql=>some .neq
 | .neq=>some .eql
 | .lss=>some .geq
 | .geq=>some .lss
 | .leq=>some .gtr
 | .gtr=>some .leq
 | _=>none
def H8 (c n m:Nat):List (Nat×Bool)->Option Bool
 | []=>none
 | p::l=>match fZ.nodes[p.1]? with
   | some (.bin op n' m')=>bif Nat.beq n n'&&Nat.beq m m'&&Nat.beq (tC op) c then some p.2 else H8 c n m l
   | _=>H8 c n m l
def MN (op:BinOp) (n m:Nat):Option Bool:=match CZ op with
 | some op'=>(H8 (tC op') n m fZ.dec).map λb=>!b
 | none=>none
def Yh (x:Nd):Option Bool:=match x with
 | .bin .eql n m=>bif DJ n m fZ.dec then some false else MN .eql n m
 | .bin .neq n m=>bif DJ n m fZ.dec then some true else MN .neq n m
 | .bin op n m=>MN op n m
 | _=>none
def jH (x:Nd):Option AV:=
 match eP x with
 | some n=>match UM n with
   | some b=>some (.b b)
   | none=>match Yh x with
     | some b=>some (.b b)
     | none=>some (.nd n)
 | none=>none
def iD:AV->Option Nat
 | .nd n=>some n
 | .i k n=>eP (.ci k n)
 | .b x=>eP (.cb x)
 | .s x=>eP (.cs x)
 | .bT=>eP (.ml [])
 | _=>none
def nodesOf:List AV->Option (List Nat)
 | []=>some []
 | a::l=>match iD a,nodesOf l with
   | some n,some r=>some (n::r)
   | _,_=>none
def CQ:AV->Option Nat
 | .agg l=>match nodesOf l with
   | some ns=>eP (.mk ns)
   | none=>none
 | _=>none
def tJ:Nat->Nat->Nat->Bool
 | 0,m,n=>Nat.beq m n
 | f+1,m,n=>Nat.beq m n || match fZ.nodes[m]? with
   | some (.upd _ _ a _ _)=>tJ f a n
   | some (.same a _)=>tJ f a n
   | _=>false
def elemsOf (agg:Bool) (size:Nat):Nat->List AV->Option (List Nat)
 | 0,_=>some []
 | n+1,cs=>match (if agg then CQ (.agg (cs.take size)) else (cs.head?).bind iD),elemsOf agg size n (cs.drop size) with
   | some a,some r=>some (a::r)
   | _,_=>none
def listOf (P:Program) (σ:au) (e:TypeId):AV->Option Nat
 | .nd n=>some n
 | .bT=>eP (.ml [])
 | .sv id n=>match σ.get id with
   | some (.vec m et _)=>if Nat.beq e et&&tJ 100 m n then some m else none
   | _=>none
 | .sl id off len _=>match σ.get id,sizeT P e,nD P e with
   | some (.cells c et _ _),some size,some agg=>if Nat.beq e et&&((agg&&Nat.blt 0 size) || Nat.beq size 1) then match takeN c off (len * size) with
     | some cs=>match elemsOf agg size len cs with
       | some ns=>eP (.ml ns)
       | none=>none
     | none=>none
     else none
   | _,_,_=>none
 | _=>none
def amh (a:AV):Bool:=
 match a with
 | .nd _ | .rx _ _ | .sv _ _ | .pv _ _ _ | .pd _ _=>true
 | _=>false
def XT (P:Program) (t:TypeId):Option Nat:=
 match P.underlying t with
 | some (.int _)=>some 0
 | some .string=>some 1
 | some .bool=>some 2
 | _=>none
def Jj (P:Program):List Field->Nat->Option (List Nat)
 | [],_=>some []
 | f::fs,k=>if !(f.name == "_")&&Nat.beq f.offset k then match XT P f.type,Jj P fs (k+1) with
   | some a,some r=>some (a::r)
   | _,_=>none
   else none
def RU (P:Program) (op:BinOp) (t:TypeId) (a b:AV):Option AV:=
 match P.underlying t with
 | some (.int _) | some .string=>match iD a,iD b with
   | some x,some y=>jH (.bin op x y)
   | _,_=>none
 | some .bool=>match iD a,iD b with
   | some x,some y=>jH (.Am op x y)
   | _,_=>none
 | some (.struct fs)=>if !(P.stoodInHeld t)&&!(P.eqGuardType P.depth t) then match Jj P fs.toList 0,CQ a,CQ b with
    | some ks,some x,some y=>jH (.Ap op ks x y)
    | _,_,_=>none
   else none
 | some (.pointer _)=>match op,a,b with
   | .eql,.rx _ _,.jB | .eql,.jB,.rx _ _=>some (.b false)
   | .neq,.rx _ _,.jB | .neq,.jB,.rx _ _=>some (.b true)
   | .eql,.pv _ _ _,.jB | .eql,.jB,.pv _ _ _=>some (.b false)
   | .neq,.pv _ _ _,.jB | .neq,.jB,.pv _ _ _=>some (.b true)
   | _,_,_=>none
 | _=>none
def Ju (op:UnOp) (a:AV):Option AV:=
 match a with
 | .nd n=>jH (.un op n)
 | _=>none
def RV (P:Program) (src dst:TypeId) (x:AV) (σ:au):Option (AV×au):=
 match P.underlying src,P.underlying dst,x with
 | some _,some (.int k),.nd n=>(jH (.conv k n)).map (·,σ)
 | some .string,some .string,.nd n=>(jH (.BI n)).map (·,σ)
 | some .string,some (.slice e),.nd n=>
   match P.underlying e with
   | some (.int .u8)=>if e≠0/\sizeT P e=some 1 then match eP (.bytes n) with
      | some m=>some (.sv σ.next m,σ.new (.vec m e false))
      | none=>none
     else none
   | _=>none
 | some (.slice e),some .string,x=>
   match P.underlying e with
   | some (.int .u8)=>match listOf P σ e x with
      | some m=>(jH (.str m)).map (·,σ)
      | none=>none
   | _=>none
 | _,_,_=>none
def YC (P:Program) (t:TypeId) (x:AV):Option AV:=
 match P.underlying t,x with
 | some .string,.nd n=>jH (.slen n)
 | some (.slice _),.nd n=>jH (.len n)
 | some (.slice _),.sv _ n=>jH (.len n)
 | _,_=>none
def dB (a:Option AV):Option AV:=
 match a with
 | some (.nd n)=>match UM n with
   | some b=>some (.b b)
   | none=>none
 | x=>x
def EW (i:Nat):Nat->Nat->Option AV
 | 0,_=>none
 | c+1,j=>match jH (.wY i j) with
   | some (.b true)=>some (.i .i64 j)
   | some (.b false)=>EW i c (j+1)
   | some (.nd m)=>match dB (some (.nd m)) with
     | some (.b true)=>some (.i .i64 j)
     | some (.b false)=>EW i c (j+1)
     | _=>none
   | _=>none
def RY (P:Program) (t:TypeId) (x ix:AV):Option AV:=
 match P.underlying t with
 | some .string=>match iD x,iD ix with
   | some n,some i=>jH (.BJ n i)
   | _,_=>none
 | some (.array len _)=>match iD ix with
   | some i=>match EW i len 0 with
     | some k=>CO P t x k
     | none=>none
   | none=>none
 | _=>none
def Ku:Option AV->Option Nat
 | none=>eP (.ci .i64 0)
 | some a=>iD a
def OD (x:Nd):Option AV->Option Nat
 | none=>eP x
 | some a=>iD a
def Na (P:Program) (t:TypeId) (x:AV) (lo hi:Option AV):Option AV:=
 match P.underlying t with
 | some .string=>match iD x with
   | some n=>match Ku lo,OD (.slen n) hi with
     | some l,some h=>jH (.BQ n l h)
     | _,_=>none
   | none=>none
 | some (.slice e)=>match x,sizeT P e with
   | .nd n,some size=>match Ku lo,OD (.len n) hi with
     | some l,some h=>jH (.zl size n l h)
     | _,_=>none
   | _,_=>none
 | _=>none
def Sr (P:Program) (t:TypeId) (σ:au) (x:AV) (lo hi:Option AV):Option (AV×au):=
 match P.underlying t,x with
 | some (.slice e),.sv id n=>match σ.get id,sizeT P e with
   | some (.vec m et f),some size=>if Nat.beq e et&&tJ 100 m n&&Nat.ble σ.lock id then
      match lo with
      | none=>match Ku none,OD (.len m) hi with
        | some z,some h=>(eP (.zl size m z h)).map λk=>(.sv id k,σ.put id (.vec k et f))
        | _,_=>none
      | some _=>(Na P t (.nd m) lo hi).map (·,σ.kill id)
     else none
   | _,_=>none
 | _,_=>none
def RX (P:Program) (t:TypeId) (x:AV) (f:Nat):Option AV:=
 match P.underlying t with
 | some (.struct fields)=>
   match fields[f]? with
   | some fd=>match sizeT P fd.type with
     | some n=>if n=0 then none else match x with
       | .rx m off=>some (.rx m (off+fd.offset))
       | .pv id m off=>some (.pv id m (off+fd.offset))
       | _=>none
     | none=>none
   | none=>none
 | _=>none
def RZ (P:Program) (σ:au) (t:TypeId) (x ix:AV):Option AV:=
 match P.underlying t with
 | some (.slice e)=>match sizeT P e,iD ix with
   | some size,some i=>match x with
     | .nd n=>(eP (.at size n i)).map λm=>.rx m 0
     | .sv id n=>match σ.get id with
       | some (.vec _ et _)=>if Nat.beq e et then (eP (.idx n i)).map λm=>.pv id m 0 else none
       | _=>none
     | .sl _ _ len _=>match EW i len 0 with
       | some k=>wV P t x k
       | none=>none
     | _=>none
   | _,_=>none
 | some (.array len _)=>match iD ix with
   | some i=>match EW i len 0 with
     | some k=>wV P t x k
     | none=>none
   | none=>none
 | _=>none
def Ew (m:Nat):Nat->Nat->Option (List AV)
 | _,0=>some []
 | off,n+1=>match jH (.cell off m),Ew m (off+1) n with
   | some a,some r=>some (a::r)
   | _,_=>none
def MZ (P:Program) (t:TypeId) (m off:Nat):Option AV:=
 match nD P t with
 | some true=>match sizeT P t with
   | some n=>(Ew m off n).map .agg
   | none=>none
 | some false=>jH (.cell off m)
 | none=>none
def Si (P:Program) (t:TypeId) (σ:au) (a:AV):Option AV:=
 match a with
 | .rx m off=>MZ P t m off
 | .pv id i off=>match σ.get id with
   | some (.vec m et _)=>match sizeT P et with
     | some size=>match eP (.at size m i) with
       | some x=>MZ P t x off
       | none=>none
     | none=>none
   | _=>none
 | _=>none
def LG (P:Program) (kt:TypeId) (k:AV):Option (Nat×Option IntKind):=
 match P.underlying kt,iD k with
 | some (.int kk),some n=>match eP (.ci kk 0) with
   | some z=>(eP (.bin .eql n z)).map λ_=>(n,some kk)
   | none=>none
 | some .string,some n=>match eP (.cs []) with
   | some z=>(eP (.bin .eql n z)).map λ_=>(n,none)
   | none=>none
 | _,_=>none
def V8 (n:Nat) (e:AV):Option Bool:=
 match iD e with
 | some m=>match (jH (.bin .eql n m)) with
   | some (.b b)=>some b
   | some (.nd j)=>match dB (some (.nd j)) with
     | some (.b b)=>some b
     | _=>none
   | _=>none
 | none=>none
def Il (n:Nat):List (AV×AV)->Nat->Option (Option (Nat×AV))
 | [],_=>some none
 | e::es,i=>match V8 n e.1 with
   | some true=>some (some (i,e.2))
   | some false=>Il n es (i+1)
   | none=>none
def Nl (P:Program) (et:TypeId) (v:AV):Option (Nat×Option Nat):=
 match nD P et with
 | some true=>match CQ v,sizeT P et with
   | some n,some k=>if Nat.beq v.cells.length k then some (n,some k) else none
   | _,_=>none
 | some false=>(iD v).map (·,none)
 | none=>none
def IY:Option IntKind->Option IntKind->Bool
 | none,none=>true
 | some a,some b=>Nat.beq (kc a) (kc b)
 | _,_=>false
def Nb:Option Nat->Option Nat->Bool
 | none,none=>true
 | some a,some b=>Nat.beq a b
 | _,_=>false
def Ns (P:Program) (et:TypeId):Option AV:=
 match P.info? et with
 | some i=>match i.zero with
   | some z=>kN 4 z
   | none=>none
 | none=>none
def Sj (P:Program) (t:TypeId) (m k:AV) (ok:Bool) (σ:au):Option AV:=
 match P.underlying t,m with
 | some (.map kt et),.mp id=>
   match LG P kt k,σ.get id with
   | some (n,_),some (.map es)=>match Il n es 0 with
     | some (some (_,v))=>some (if ok then .bY [v,.b true] else v)
     | some none=>(Ns P et).map λz=>if ok then .bY [z,.b false] else z
     | none=>none
   | some (n,kk),some (.pmap es)=>
     if IY kk none then match Il n (es.map λe=>(AV.s e.1,e.2)) 0 with
      | some (some (_,v))=>some (if ok then .bY [v,.b true] else v)
      | some none=>(Ns P et).map λz=>if ok then .bY [z,.b false] else z
      | none=>none
     else none
   | some (n,kk),some (.smap j A8 sz)=>
     if IY kk A8 then match (Ns P et).bind (Nl P et) with
      | some (z,sz')=>if Nb sz sz' then match (eP (.Bd z j n)).bind λg=>MZ P et g 0 with
        | some v=>if ok then match jH (.Bf j n) with
           | some b=>some (.bY [v,b])
           | none=>none
          else some v
        | none=>none
        else none
      | none=>none
     else none
   | _,_=>none
 | _,_=>none
def Sm (P:Program) (t:TypeId) (m k v:AV) (σ:au):Option au:=
 match P.underlying t,m with
 | some (.map kt et),.mp id=>
   if Nat.ble σ.lock id then
    match LG P kt k,Nl P et v,σ.get id with
    | some (n,kk),some (u,sz),some (.map [])=>match eP (.ml []) with
      | some j=>(eP (.yj j n u)).map λj'=>σ.put id (.smap j' kk sz)
      | none=>none
    | some (n,kk),some (u,sz),some (.smap j A8 sz')=>
      if IY kk A8&&Nb sz sz' then (eP (.yj j n u)).map λj'=>σ.put id (.smap j' kk sz) else none
    | _,_,_=>none
   else none
 | _,_=>none
def mapArg (v:AV):Bool:=match v with
 | .nd n=>(match fZ.nodes[n]? with
   | some (.len _)=>true
   | _=>false)
 | v=>(uo v).isSome
def Sv (P:Program) (t:TypeId) (σ:au) (a v:AV):Option au:=
 match a with
 | .pv id i off=>match σ.get id with
   | some (.vec m et f)=>
     if σ.lock<=id/\sizeT P t=some v.cells.length then
      match sizeT P et,nodesOf v.cells with
      | some size,some vs=>match eP (.upd size off m i vs) with
        | some m'=>some (σ.put id (.vec m' et f))
        | none=>none
      | _,_=>none
     else none
   | _=>none
 | _=>none
def YA (P:Program) (argTypes:Array TypeId) (s x:AV) (σ:au):Option (AV×au):=
 match argTypes.toList with
 | [t,t1]=>
   match uG P t with
   | some (e,size,bytes,_)=>
     if size=0 then none else
     match (match P.underlying t1 with
      | some .string=>if size=1 then match iD x with
         | some n=>eP (.bytes n)
         | none=>none
        else none
      | some (.slice _)=>listOf P σ e x
      | _=>none) with
     | none=>none
     | some b=>
       match s with
       | .bT=>match eP (.ml []) with
         | some a=>(eP (.app size bytes a b)).map λm=>(.sv σ.next m,σ.new (.vec m e true))
         | none=>none
       | .sv id n=>match σ.get id with
         | some (.vec a et f)=>if Nat.beq et e&&tJ 100 a n&&Nat.ble σ.lock id then (eP (.app size bytes a b)).map λm=>(.sv σ.next m,(σ.kill id).new (.vec m e f)) else none
         | _=>none
       | .sl id 0 0 (some 0)=>match σ.get id with
         | some (.cells [] et true false)=>if Nat.beq et e&&Nat.ble σ.lock id then match eP (.ml []) with
           | some a=>(eP (.app size bytes a b)).map λm=>(.sv σ.next m,(σ.kill id).new (.vec m e false))
           | none=>none
           else none
         | _=>none
       | .sl id 0 len none=>match σ.get id with
         | some (.cells c et true true)=>if Nat.beq et e&&Nat.ble σ.lock id&&Nat.beq c.length (len * size) then match listOf P σ e (.sl id 0 len none) with
           | some a=>(eP (.app size bytes a b)).map λm=>(.sv σ.next m,(σ.kill id).new (.vec m e false))
           | none=>none
           else none
         | _=>none
       | _=>none
   | none=>none
 | _=>none
def QC (P:Program) (e:TypeId) (size len:Nat) (cs:List AV):Option Nat:=
 if cs.any amh then
  match nD P e with
  | some agg=>if ((agg&&Nat.blt 0 size) || Nat.beq size 1)&&Nat.blt 0 len&&Nat.beq cs.length (len * size) then match elemsOf agg size len cs with
    | some ns=>eP (.ml ns)
    | none=>none
    else none
  | none=>none
 else none
def QE (P:Program) (σ:au) (e:TypeId) (size len:Nat) (cs:List AV):Option AV×au:=
 match QC P e size len cs with
 | some m=>(some (.sv σ.next m),σ.new (.vec m e false))
 | none=>(some (.sl σ.next 0 len (some len)),σ.new (.cells cs e true false))
def Sl (P:Program) (t:TypeId) (len cap:AV) (σ:au):Option (AV×au):=
 match P.underlying t with
 | some (.slice e')=>match uG P t,nD P e' with
   | some (e,size,bytes,z),some agg=>
     if size=0 then none else
     match (if agg then CQ (.agg z) else (z.head?).bind iD),iD len,iD cap with
     | some zn,some l,some c=>(eP (.rep size bytes zn l c)).map λm=>(.sv σ.next m,σ.new (.vec m e false))
     | _,_,_=>none
   | _,_=>none
 | _=>none
def Gi (P:Program) (b:Builtin) (argTypes:Array TypeId) (args:List AV) (σ:au):Option (Option AV×au):=
 match b,args with
 | .len,[x]=>match argTypes[0]? with
   | some t=>(YC P t x).map λv=>(some v,σ)
   | none=>none
 | .append,[s,x]=>(YA P argTypes s x σ).map λr=>(some r.1,r.2)
 | .min,[x,y]=>match iD x,iD y with
   | some m,some n=>(jH (.mm false m n)).map λv=>(some v,σ)
   | _,_=>none
 | .max,[x,y]=>match iD x,iD y with
   | some m,some n=>(jH (.mm true m n)).map λv=>(some v,σ)
   | _,_=>none
 | .unsafeSliceData,[.sv id n]=>match σ.get id with
   | some (.vec m _ true)=>if tJ 100 m n then some (some (.pd id n),σ) else none
   | _=>none
 | .unsafeString,[.pd id n,.nd k]=>
   match argTypes.toList with
   | [t,_]=>
     match P.underlying t,σ.get id with
     | some (.pointer e),some (.vec m et _)=>
       if et=e/\e≠0/\P.cellsOf e=1/\σ.lock<=id then
        match fZ.nodes[k]? with
        | some (.len n')=>if tJ 100 m n&&tJ 100 m n' then (jH (.str m)).map λv=>(some v,σ.kill id) else none
        | _=>none
       else none
     | _,_=>none
   | _=>none
 | _,_=>none
def Oe (P:Program) (name:String) (σ:au):AV->Option (FuncId×AV)
 | .dY t v=>
   match P.info? t,P.underlying t with
   | some i,some d=>match i.methods.find? (·.name==name) with
     | some m=>match m.path.toList,m.func with
       | [],some (f,ptr)=>match d,ptr with
         | .pointer _,true=>some (f,v)
         | .pointer e,false=>match v with
           | .p id off=>(uq P e σ (.p id off)).map λx=>(f,x)
           | _=>none
         | _,true=>none
         | _,false=>some (f,v)
       | _,_=>none
     | none=>none
   | _,_=>none
 | _=>none
abbrev Caller:=FuncId->List AV->au->Option (AV×au)
def dn (σ:au):Option AV->Option (Option AV×au):=Option.map λv=>(some v,σ)
def qP:Option (AV×au)->Option (Option AV×au):=Option.map λ(v,σ)=>(some v,σ)
def F7:Option au->Option (Option AV×au):=Option.map λσ=>(none,σ)
def Eb (P:Program) (b:Builtin) (argTypes:Array TypeId) (args:List AV) (σ:au):Option (Option AV×au):=
 match b,args with
 | .len,[x]=>match argTypes[0]? with
   | some t=>dn σ (Oa P σ t x)
   | none=>none
 | .append,[s,x]=>qP (TW P argTypes s x σ)
 | .copy,[d,x]=>qP (Ua P argTypes d x σ)
 | .clear,[x]=>match argTypes[0]? with
   | some t=>qP (TY P t x σ)
   | none=>none
 | .cap,[x]=>match argTypes[0]? with
   | some t=>match P.underlying t,x with
     | some (.slice _),.bT=>dn σ (some (.i .i64 0))
     | some (.slice _),.sl _ _ _ (some c)=>dn σ (some (.i .i64 c))
     | _,_=>none
   | none=>none
 | .unsafeSliceData,[.bT]=>dn σ (some .jB)
 | .unsafeSliceData,[.sl id off n cap]=>if n=0/\(cap=none\/cap=some 0) then none else dn σ (some (.p id off))
 | .unsafeString,[x,.i .i64 n]=>
   match argTypes.toList with
   | [t,_]=>
     if n=0 then (match x with
      | .jB=>dn σ (some (.s []))
      | .p _ _=>dn σ (some (.s []))
      | _=>none)
     else match x with
     | .p id off=>match P.underlying t,σ.get id with
       | some (.pointer e),some (.cells c et true opn)=>
         if et=e/\e≠0/\P.cellsOf e=1/\0 < n/\n < 2 ^ 62/\σ.lock<=id then
          match takeN c off n.toNat with
          | some r=>match bytesOf r with
            | some b=>some (some (.s b),σ.put id (.cells c et false opn))
            | none=>none
          | none=>none
         else none
       | _,_=>none
     | _=>none
   | _=>none
 | .min,[x,y]=>match uY x,uY y with
   | some u,some v=>dn σ ((oH P (Builtin.min_ #[] 0 #[u,v])).bind (kN 4))
   | _,_=>none
 | .max,[x,y]=>match uY x,uY y with
   | some u,some v=>dn σ ((oH P (Builtin.max_ #[] 0 #[u,v])).bind (kN 4))
   | _,_=>none
 | .min,[x,y,z]=>match uY x,uY y,uY z with
   | some u,some v,some t=>dn σ ((oH P (Builtin.min_ #[] 0 #[u,v,t])).bind (kN 4))
   | _,_,_=>none
 | _,_=>none
def YB (b:Builtin) (args:List AV):Bool:=
 match b,args with
 | .append,.bT::_=>!(fZ.nodes.isEmpty)
 | _,_=>false
def jC {α:Type} (a:Option α) (b:Unit->Option α):Option α:=
 match a with
 | some x=>some x
 | none=>b ()
theorem tH {α:Type} {a:Option α} {b:Unit->Option α} {x:α} (h:jC a b=some x):a=some x\/b ()=some x:=by
 unfold jC at h;split at h
 ·exact .inl h
 ·exact .inr h
def pO (P:Program) (call:Caller) (o:Oper) (ev:Operand->Option AV) (σ:au):Option (Option AV×au):=
 match o.op with
 | .move x | .assign x=>dn σ (ev x)
 | .pick c a b=>match dB (ev c) with
   | some (.b t)=>dn σ (if t then ev a else ev b)
   | _=>none
 | .alloc t=>(xB P t).map λz=>(some (.p σ.next 0),σ.new (.cells z t true false))
 | .box t x=>(ev x).map λv=>(some (.p σ.next 0),σ.new (.cells v.cells t true false))
 | .build t parts=>match Dj ev parts.toList with
   | some ps=>dn σ (NZ P t ps)
   | none=>none
 | .buildSlice t len parts=>
   match uG P t,Dj ev parts.toList with
   | some (e,size,_,z),some ps=>
     if len * size > 2 ^ 24 then none else
     match yM (λi=>some (i * size,size)) (if len * size=0 then [] else iU len z) ps with
     | some cs=>some (QE P σ e size len cs)
     | none=>none
   | _,_=>none
 | .load t a=>match ev a with
   | some a=>dn σ (jC (uq P t σ a) λ_=>Si P t σ a)
   | none=>none
 | .store t a x=>match ev a,ev x with
   | some a,some v=>F7 (jC (CP P t σ a v) λ_=>Sv P t σ a v)
   | _,_=>none
 | .nilCheck x=>match ev x with
   | some (.p id off)=>dn σ (some (.p id off))
   | some (.rp a off)=>dn σ (some (.rp a off))
   | some (.rx m off)=>dn σ (some (.rx m off))
   | some (.pv id m off)=>dn σ (some (.pv id m off))
   | some (.fn f fs cs)=>dn σ (some (.fn f fs cs))
   | _=>none
 | .binOp op t x y _=>match ev x,ev y with
   | some a,some b=>dn σ (jC (qY P op t x y a b) λ_=>RU P op t a b)
   | _,_=>none
 | .unOp op _ x=>match ev x with
   | some a=>match uY a with
     | some u=>dn σ ((oH P (Op.unary op u)).bind (kN 4))
     | none=>dn σ (Ju op a)
   | none=>none
 | .convert src dst x=>match ev x with
   | some a=>qP (jC (wU P src dst a σ) λ_=>RV P src dst a σ)
   | none=>none
 | .makeInterface t x=>match ev x,ER P t with
   | some a,some false=>dn σ (some (.dY t a))
   | _,_=>none
 | .makeFunc (.func f) first caps=>match y8 ev first.toList,y8 ev caps.toList with
    | some fs,some cs=>dn σ (some (.fn f fs cs))
    | _,_=>none
 | .makeMap t r=>match r with
   | none=>some (some (.mp σ.next),σ.new (.map []))
   | some h=>match ev h,P.underlying t with
     | some v,some (.map _ _)=>if mapArg v then some (some (.mp σ.next),σ.new (.map [])) else none
     | _,_=>none
 | .makeSlice t l c=>match ev l,ev c with
   | some l,some c=>qP (jC (Oc P t l c σ) λ_=>Sl P t l c σ)
   | _,_=>none
 | .slice t x lo hi none=>match ev x,FM ev lo,FM ev hi with
   | some v,some lo,some hi=>jC (dn σ (jC (yP P t σ v lo hi) λ_=>Na P t v lo hi)) λ_=>qP (Sr P t σ v lo hi)
   | _,_,_=>none
 | .fieldAddr t x f=>match ev x with
   | some a=>dn σ (jC (N9 P t a f) λ_=>RX P t a f)
   | none=>none
 | .field t x f=>match ev x with
   | some a=>dn σ (N8 P t a f)
   | none=>none
 | .indexAddr t x ix=>match ev x,ev ix with
   | some a,some k=>dn σ (jC (wV P t a k) λ_=>RZ P σ t a k)
   | _,_=>none
 | .index t x ix=>match ev x,ev ix with
   | some a,some k=>dn σ (jC (CO P t a k) λ_=>RY P t a k)
   | _,_=>none
 | .lookup t m k ok=>match ev m,ev k with
   | some m,some k=>dn σ (jC (Ob P t m k ok σ) λ_=>Sj P t m k ok σ)
   | _,_=>none
 | .mapUpdate t m k v | .insert t m k v=>match ev m,ev k,ev v with
   | some m,some k,some v=>F7 (jC (Hl P t m k v σ) λ_=>Sm P t m k v σ)
   | _,_,_=>none
 | .range t x=>match P.underlying t,ev x with
   | some .string,some (.s s)=>some (some (.p σ.next 0),σ.new (.iter s 0))
   | some (.map _ _),some .oC=>some (some (.p σ.next 0),σ.new (.iterM none))
   | some (.map _ _),some (.mp id)=>match σ.get id with
     | some (.map _)=>some (some (.p σ.next 0),σ.new (.iterM (some id)))
     | _=>none
   | _,_=>none
 | .next it true=>match ev it with
   | some a=>qP (Og a σ)
   | none=>none
 | .next it false=>match ev it with
   | some (.p id 0)=>match σ.get id with
     | some (.iterM none)=>some (some (.bY [.b false]),σ)
     | some (.iterM (some m))=>match σ.get m with
       | some (.map [])=>some (some (.bY [.b false]),σ)
       | _=>none
     | _=>none
   | _=>none
 | .typeAssert x _ t ok=>match ev x with
   | some a=>dn σ (Ol P a t ok)
   | none=>none
 | .extract x k=>match ev x with
   | some (.bY l)=>dn σ l[k]?
   | _=>none
 | .call c=>match y8 ev c.args.toList with
   | some args=>
     match c.callee with
     | .builtin b=>bif YB b args then jC (Gi P b c.argTypes args σ) λ_=>Eb P b c.argTypes args σ else jC (Eb P b c.argTypes args σ) λ_=>Gi P b c.argTypes args σ
     | .value f=>match ev f with
       | some (.fn f fi caps)=>qP (call f (fi++args++caps) σ)
       | _=>none
     | .invoke r name=>match (ev r).bind (Oe P name σ) with
       | some (f,x)=>qP (call f (x::args) σ)
       | none=>none
   | none=>none
 | _=>none
def U4 (op:BinOp) (k:IntKind) (a b:Int):Option AV:=
 match op with
 | .add=>some (.i k (k.wrap (a+b)))
 | .sub=>some (.i k (k.wrap (a - b)))
 | .mul=>some (.i k (k.wrap (a * b)))
 | .eql=>some (.b (a==b))
 | .neq=>some (.b (a != b))
 | .lss=>some (.b (decide (a < b)))
 | .leq=>some (.b (decide (a<=b)))
 | .gtr=>some (.b (decide (a > b)))
 | .geq=>some (.b (decide (a>=b)))
 | _=>none
def U7 (op:BinOp) (a b:List UInt8):Option AV:=
 match op with
 | .add=>if a.length+b.length<=9223372036854775807 then some (.s (a++b)) else none
 | .eql=>some (.b (a==b))
 | .neq=>some (.b (!(a==b)))
 | .lss=>some (.b (Op.bytesLess a b))
 | .leq=>some (.b (Op.bytesLess a b || a==b))
 | .gtr=>some (.b (!(Op.bytesLess a b || a==b)))
 | .geq=>some (.b (!(Op.bytesLess a b)))
 | _=>none
def U3 (P:Program) (op:BinOp) (t:TypeId) (x y:Operand) (a b:AV):Option AV:=
 match a with
 | .i k m=>match b with
   | .i k' n=>if k=k' then match U4 op k m n with
      | some r=>some r
      | none=>qY P op t x y a b
     else qY P op t x y a b
   | _=>qY P op t x y a b
 | .s u=>match b with
   | .s v=>match U7 op u v with
     | some r=>some r
     | none=>qY P op t x y a b
   | _=>qY P op t x y a b
 | _=>qY P op t x y a b
theorem toList_mk (l:List UInt8):(⟨⟨l⟩⟩:ByteArray).toList=l:=by rw [ByteArray.toList_eq]
theorem ajW {P:Program} {op:BinOp} {t:TypeId} {x y:Operand} {k:IntKind} {m n:Int} {r:AV} (h:U4 op k m n=some r):qY P op t x y (.i k m) (.i k n)=some r:=by
 have key:∀v:Value,(do eqGuard op t x y (.int k m) (.int k n);binOp op t (.int k m) (.int k n):Sem Value)=.pure v->kN 4 v=some r->qY P op t x y (.i k m) (.i k n)=some r:=by
  intro v hv hr;have:qY P op t x y (.i k m) (.i k n)=(oH P (do eqGuard op t x y (.int k m) (.int k n);binOp op t (.int k m) (.int k n):Sem Value)).bind (kN 4):=by
   cases op<;>rfl
  rw [this,hv];exact hr
 cases op<;>simp only [U4,reduceCtorEq,aT] at h<;>subst h
 all_goals refine key _ (by simp only [eqGuard,binOp,ne_eq,not_true_eq_false,if_false,Op.intArith,Op.intCmp];rfl) rfl
theorem aaf (a b:List UInt8):((⟨⟨a⟩⟩:ByteArray)++⟨⟨b⟩⟩)=⟨⟨a++b⟩⟩:=by
 apply ByteArray.ext;rw [ByteArray.data_append];simp
theorem akn {P:Program} {op:BinOp} {t:TypeId} {x y:Operand} {u v:List UInt8} {r:AV} (h:U7 op u v=some r):qY P op t x y (.s u) (.s v)=some r:=by
 have key:∀z:Value,(do eqGuard op t x y (.string ⟨⟨u⟩⟩) (.string ⟨⟨v⟩⟩);binOp op t (.string ⟨⟨u⟩⟩) (.string ⟨⟨v⟩⟩):Sem Value)=.pure z->kN 4 z=some r->qY P op t x y (.s u) (.s v)=some r:=by
  intro z hz hr;have:qY P op t x y (.s u) (.s v)=(oH P (do eqGuard op t x y (.string ⟨⟨u⟩⟩) (.string ⟨⟨v⟩⟩);binOp op t (.string ⟨⟨u⟩⟩) (.string ⟨⟨v⟩⟩):Sem Value)).bind (kN 4):=by
   cases op<;>rfl
  rw [this,hz];exact hr
 cases op<;>simp only [U7,reduceCtorEq,aT] at h
 case add=>
  split at h
  ·next hb=>
   cases h;have:¬ (((⟨⟨u⟩⟩:ByteArray).size+(⟨⟨v⟩⟩:ByteArray).size:Nat):Int) > IntKind.i64.max:=by
    show ¬ ((u.length+v.length:Nat):Int) > 9223372036854775807
    omega
   exact key (.string ⟨⟨u++v⟩⟩) (by simp only [eqGuard,binOp,Op.stringOp,ah this,aaf];rfl) rfl
  ·cases h
 all_goals subst h
 all_goals refine key _ (by simp only [eqGuard,binOp,Op.stringOp,toList_mk];rfl) rfl
theorem ajV (P:Program) (op:BinOp) (t:TypeId) (x y:Operand) (a b:AV):U3 P op t x y a b=qY P op t x y a b:=by
 unfold U3;split
 ·split
  ·split
   ·next hk=>
    subst hk;split
    ·next r hr=>exact (ajW hr).symm
    ·rfl
   ·rfl
  ·rfl
 ·split
  ·split
   ·next r hr=>exact (akn hr).symm
   ·rfl
  ·rfl
 ·rfl
def fUn (P:Program) (σ:au) (op:UnOp) (a:AV):Option (Option AV×au):=
 match op with
 | .not=>match a with
   | .b x=>some (some (.b (!x)),σ)
   | _=>match uY a with
     | some u=>dn σ ((oH P (Op.unary op u)).bind (kN 4))
     | none=>dn σ (Ju op a)
 | _=>match uY a with
   | some u=>dn σ ((oH P (Op.unary op u)).bind (kN 4))
   | none=>dn σ (Ju op a)
def abE (_P:Program) (_call:Caller) (ev:Operand->Option AV) (σ:au) (x:Operand):Option (Option AV×au):=
 dn σ (ev x)
def ajX (_P:Program) (_call:Caller) (ev:Operand->Option AV) (σ:au) (c:Operand) (a:Operand) (b:Operand):Option (Option AV×au):=
 match dB (ev c) with
  | some (.b t)=>dn σ (if t then ev a else ev b)
  | _=>none
def aj7 (P:Program) (_call:Caller) (_ev:Operand->Option AV) (σ:au) (t:TypeId):Option (Option AV×au):=
 (xB P t).map λz=>(some (.p σ.next 0),σ.new (.cells z t true false))
def akh (_P:Program) (_call:Caller) (ev:Operand->Option AV) (σ:au) (t:TypeId) (x:Operand):Option (Option AV×au):=
 (ev x).map λv=>(some (.p σ.next 0),σ.new (.cells v.cells t true false))
def aki (P:Program) (_call:Caller) (ev:Operand->Option AV) (σ:au) (t:TypeId) (parts:Array (Nat×Operand)):Option (Option AV×au):=
 match Dj ev parts.toList with
  | some ps=>dn σ (NZ P t ps)
  | none=>none
def akj (P:Program) (_call:Caller) (ev:Operand->Option AV) (σ:au) (t:TypeId) (len:Nat) (parts:Array (Nat×Operand)):Option (Option AV×au):=
     match uG P t,Dj ev parts.toList with
    | some (e,size,_,z),some ps=>
      if len * size > 2 ^ 24 then none else
      match yM (λi=>some (i * size,size)) (if len * size=0 then [] else iU len z) ps with
      | some cs=>some (QE P σ e size len cs)
      | none=>none
    | _,_=>none
def akk (P:Program) (_call:Caller) (ev:Operand->Option AV) (σ:au) (t:TypeId) (a:Operand):Option (Option AV×au):=
 match ev a with
  | some a=>dn σ (jC (uq P t σ a) λ_=>Si P t σ a)
  | none=>none
def akl (P:Program) (_call:Caller) (ev:Operand->Option AV) (σ:au) (t:TypeId) (a:Operand) (x:Operand):Option (Option AV×au):=
 match ev a,ev x with
  | some a,some v=>F7 (jC (CP P t σ a v) λ_=>Sv P t σ a v)
  | _,_=>none
def Pv (_P:Program) (_call:Caller) (ev:Operand->Option AV) (σ:au) (x:Operand):Option (Option AV×au):=
 match ev x with
  | some (.p id off)=>dn σ (some (.p id off))
  | some (.rp a off)=>dn σ (some (.rp a off))
  | some (.rx m off)=>dn σ (some (.rx m off))
  | some (.pv id m off)=>dn σ (some (.pv id m off))
  | some (.fn f fs cs)=>dn σ (some (.fn f fs cs))
  | _=>none
def U6 (P:Program) (_call:Caller) (ev:Operand->Option AV) (σ:au) (op:BinOp) (t:TypeId) (x:Operand) (y:Operand):Option (Option AV×au):=
 match ev x,ev y with
  | some a,some b=>dn σ (jC (U3 P op t x y a b) λ_=>RU P op t a b)
  | _,_=>none
def U5 (P:Program) (_call:Caller) (ev:Operand->Option AV) (σ:au) (op:UnOp) (x:Operand):Option (Option AV×au):=
 match ev x with
  | some a=>fUn P σ op a
  | none=>none
def ajY (P:Program) (_call:Caller) (ev:Operand->Option AV) (σ:au) (src:TypeId) (dst:TypeId) (x:Operand):Option (Option AV×au):=
 match ev x with
  | some a=>qP (jC (wU P src dst a σ) λ_=>RV P src dst a σ)
  | none=>none
def ajZ (P:Program) (_call:Caller) (ev:Operand->Option AV) (σ:au) (t:TypeId) (x:Operand):Option (Option AV×au):=
 match ev x,ER P t with
  | some a,some false=>dn σ (some (.dY t a))
  | _,_=>none
def aj0 (_P:Program) (_call:Caller) (ev:Operand->Option AV) (σ:au) (f:FuncId) (first:Array Operand) (caps:Array Operand):Option (Option AV×au):=
 match y8 ev first.toList,y8 ev caps.toList with
  | some fs,some cs=>dn σ (some (.fn f fs cs))
  | _,_=>none
def abG (P:Program) (_call:Caller) (ev:Operand->Option AV) (σ:au) (t:TypeId) (r:Option Operand):Option (Option AV×au):=
 match r with
  | none=>some (some (.mp σ.next),σ.new (.map []))
  | some h=>match ev h,P.underlying t with
    | some v,some (.map _ _)=>if mapArg v then some (some (.mp σ.next),σ.new (.map [])) else none
    | _,_=>none
def aj1 (P:Program) (_call:Caller) (ev:Operand->Option AV) (σ:au) (t:TypeId) (l:Operand) (c:Operand):Option (Option AV×au):=
 match ev l,ev c with
  | some l,some c=>qP (jC (Oc P t l c σ) λ_=>Sl P t l c σ)
  | _,_=>none
def aj2 (P:Program) (_call:Caller) (ev:Operand->Option AV) (σ:au) (t:TypeId) (x:Operand) (lo:Option Operand) (hi:Option Operand):Option (Option AV×au):=
 match ev x,FM ev lo,FM ev hi with
  | some v,some lo,some hi=>jC (dn σ (jC (yP P t σ v lo hi) λ_=>Na P t v lo hi)) λ_=>qP (Sr P t σ v lo hi)
  | _,_,_=>none
def Po (P:Program) (_call:Caller) (ev:Operand->Option AV) (σ:au) (t:TypeId) (x:Operand) (f:Nat):Option (Option AV×au):=
 match ev x with
  | some a=>dn σ (jC (N9 P t a f) λ_=>RX P t a f)
  | none=>none
def aj3 (P:Program) (_call:Caller) (ev:Operand->Option AV) (σ:au) (t:TypeId) (x:Operand) (f:Nat):Option (Option AV×au):=
 match ev x with
  | some a=>dn σ (N8 P t a f)
  | none=>none
def aj6 (P:Program) (_call:Caller) (ev:Operand->Option AV) (σ:au) (t:TypeId) (x:Operand) (ix:Operand):Option (Option AV×au):=
 match ev x,ev ix with
  | some a,some k=>dn σ (jC (wV P t a k) λ_=>RZ P σ t a k)
  | _,_=>none
def aj8 (P:Program) (_call:Caller) (ev:Operand->Option AV) (σ:au) (t:TypeId) (x:Operand) (ix:Operand):Option (Option AV×au):=
 match ev x,ev ix with
  | some a,some k=>dn σ (jC (CO P t a k) λ_=>RY P t a k)
  | _,_=>none
def aj9 (P:Program) (_call:Caller) (ev:Operand->Option AV) (σ:au) (t:TypeId) (m:Operand) (k:Operand) (ok:Bool):Option (Option AV×au):=
 match ev m,ev k with
  | some m,some k=>dn σ (jC (Ob P t m k ok σ) λ_=>Sj P t m k ok σ)
  | _,_=>none
def Pq (P:Program) (_call:Caller) (ev:Operand->Option AV) (σ:au) (t:TypeId) (m:Operand) (k:Operand) (v:Operand):Option (Option AV×au):=
 match ev m,ev k,ev v with
  | some m,some k,some v=>F7 (jC (Hl P t m k v σ) λ_=>Sm P t m k v σ)
  | _,_,_=>none
def akb (P:Program) (_call:Caller) (ev:Operand->Option AV) (σ:au) (t:TypeId) (x:Operand):Option (Option AV×au):=
 match P.underlying t,ev x with
  | some .string,some (.s s)=>some (some (.p σ.next 0),σ.new (.iter s 0))
  | some (.map _ _),some .oC=>some (some (.p σ.next 0),σ.new (.iterM none))
  | some (.map _ _),some (.mp id)=>match σ.get id with
    | some (.map _)=>some (some (.p σ.next 0),σ.new (.iterM (some id)))
    | _=>none
  | _,_=>none
def akc (_P:Program) (_call:Caller) (ev:Operand->Option AV) (σ:au) (it:Operand):Option (Option AV×au):=
 match ev it with
  | some a=>qP (Og a σ)
  | none=>none
def akd (_P:Program) (_call:Caller) (ev:Operand->Option AV) (σ:au) (it:Operand):Option (Option AV×au):=
 match ev it with
  | some (.p id 0)=>match σ.get id with
    | some (.iterM none)=>some (some (.bY [.b false]),σ)
    | some (.iterM (some m))=>match σ.get m with
      | some (.map [])=>some (some (.bY [.b false]),σ)
      | _=>none
    | _=>none
  | _=>none
def ake (P:Program) (_call:Caller) (ev:Operand->Option AV) (σ:au) (x:Operand) (t:TypeId) (ok:Bool):Option (Option AV×au):=
 match ev x with
  | some a=>dn σ (Ol P a t ok)
  | none=>none
def akf (_P:Program) (_call:Caller) (ev:Operand->Option AV) (σ:au) (x:Operand) (k:Nat):Option (Option AV×au):=
 match ev x with
  | some (.bY l)=>dn σ l[k]?
  | _=>none
def akg (P:Program) (call:Caller) (ev:Operand->Option AV) (σ:au) (c:Call):Option (Option AV×au):=
 match y8 ev c.args.toList with
  | some args=>
    match c.callee with
    | .builtin b=>bif YB b args then jC (Gi P b c.argTypes args σ) λ_=>Eb P b c.argTypes args σ else jC (Eb P b c.argTypes args σ) λ_=>Gi P b c.argTypes args σ
    | .value f=>match ev f with
      | some (.fn f fi caps)=>qP (call f (fi++args++caps) σ)
      | _=>none
    | .invoke r name=>match (ev r).bind (Oe P name σ) with
      | some (f,x)=>qP (call f (x::args) σ)
      | none=>none
  | none=>none
structure ZH where
 f:Program->Caller->(Operand->Option AV)->au->Option (Option AV×au)
def opF (o:Op):ZH:=
 Op.casesOn (motive:=λ_=>ZH) o
  (λx=>⟨λP call ev σ=>abE P call ev σ x⟩)
  (λx=>⟨λP call ev σ=>abE P call ev σ x⟩)
  (λc a b=>⟨λP call ev σ=>ajX P call ev σ c a b⟩)
  (λt=>⟨λP call ev σ=>aj7 P call ev σ t⟩)
  (λt x=>⟨λP call ev σ=>akh P call ev σ t x⟩)
  (λt parts=>⟨λP call ev σ=>aki P call ev σ t parts⟩)
  (λt len parts=>⟨λP call ev σ=>akj P call ev σ t len parts⟩)
  (λt m k v=>⟨λP call ev σ=>Pq P call ev σ t m k v⟩)
  (λt a=>⟨λP call ev σ=>akk P call ev σ t a⟩)
  (λt a x=>⟨λP call ev σ=>akl P call ev σ t a x⟩)
  (λ_=>⟨λ_P _call _ev _σ=>none⟩)
  (λ_=>⟨λ_P _call _ev _σ=>none⟩)
  (λx=>⟨λP call ev σ=>Pv P call ev σ x⟩)
  (λop t x y _=>⟨λP call ev σ=>U6 P call ev σ op t x y⟩)
  (λop _ x=>⟨λP call ev σ=>U5 P call ev σ op x⟩)
  (λsrc dst x=>⟨λP call ev σ=>ajY P call ev σ src dst x⟩)
  (λ_ _=>⟨λ_P _call _ev _σ=>none⟩)
  (λt x=>⟨λP call ev σ=>ajZ P call ev σ t x⟩)
  (λfn first caps=>⟨λP call ev σ=>match fn with | .func f=>aj0 P call ev σ f first caps | _=>none⟩)
  (λt r=>⟨λP call ev σ=>abG P call ev σ t r⟩)
  (λ_ _=>⟨λ_P _call _ev _σ=>none⟩)
  (λt l c=>⟨λP call ev σ=>aj1 P call ev σ t l c⟩)
  (λt x lo hi mx=>⟨λP call ev σ=>match mx with | none=>aj2 P call ev σ t x lo hi | some _=>none⟩)
  (λt x f=>⟨λP call ev σ=>Po P call ev σ t x f⟩)
  (λt x f=>⟨λP call ev σ=>aj3 P call ev σ t x f⟩)
  (λt x ix=>⟨λP call ev σ=>aj6 P call ev σ t x ix⟩)
  (λt x ix=>⟨λP call ev σ=>aj8 P call ev σ t x ix⟩)
  (λt m k ok=>⟨λP call ev σ=>aj9 P call ev σ t m k ok⟩)
  (λt m k v=>⟨λP call ev σ=>Pq P call ev σ t m k v⟩)
  (λ_ _ _=>⟨λ_P _call _ev _σ=>none⟩)
  (λ_ _ _ _=>⟨λ_P _call _ev _σ=>none⟩)
  (λt x=>⟨λP call ev σ=>akb P call ev σ t x⟩)
  (λit b=>⟨λP call ev σ=>bif b then akc P call ev σ it else akd P call ev σ it⟩)
  (λ_=>⟨λ_P _call _ev _σ=>none⟩)
  (λx _ t ok=>⟨λP call ev σ=>ake P call ev σ x t ok⟩)
  (λx k=>⟨λP call ev σ=>akf P call ev σ x k⟩)
  (λc=>⟨λP call ev σ=>akg P call ev σ c⟩)
  (λ_=>⟨λ_P _call _ev _σ=>none⟩)
  (λ_=>⟨λ_P _call _ev _σ=>none⟩)
  (λ_=>⟨λ_P _call _ev _σ=>none⟩)
  (λ_ _=>⟨λ_P _call _ev _σ=>none⟩)
  (λ_ _ _=>⟨λ_P _call _ev _σ=>none⟩)
  (λ_ _=>⟨λ_P _call _ev _σ=>none⟩)
def lG (P:Program) (call:Caller) (o:Oper) (ev:Operand->Option AV) (σ:au):Option (Option AV×au):=(opF o.op).f P call ev σ
theorem ako (P:Program) (σ:au) (op:UnOp) (a:AV):fUn P σ op a=match uY a with
 | some u=>dn σ ((oH P (Op.unary op u)).bind (kN 4))
 | none=>dn σ (Ju op a):=by
 cases op<;>first | rfl | skip
 cases a<;>rfl
theorem sU (P:Program) (call:Caller) (o:Oper) (ev:Operand->Option AV) (σ:au):lG P call o ev σ=pO P call o ev σ:=by
 obtain ⟨dst,op,type,pos,after,guard⟩:=o;cases op with
 | binOp op t x y _=>
   show U6 P call ev σ op t x y=_
   simp only [U6,ajV,pO]
 | unOp op _ x=>
   show U5 P call ev σ op x=_
   simp only [U5,ako,pO]
 | slice t x lo hi mx=>cases mx<;>rfl
 | makeFunc fn _ _=>cases fn<;>rfl
 | next it b=>cases b<;>rfl
 | _=>rfl
def BZ (o:Oper) (ops:Array Oper) (a:aV):Option Bool:=
 match o.guard with
 | none=>some true
 | some (j,want)=>
   match ops[j]? with
   | some q=>match q.dst with
     | some d=>match dB (a.t.get d) with
       | some (.b x)=>some (x==want)
       | some (.bY _)=>some false
       | _=>none
     | none=>none
   | none=>none
def Uc (P:Program) (call:Caller) (ops:Array Oper) (i:Nat) (a:aV) (σ:au):Option (aV×au):=
 match ops[i]? with
 | none=>none
 | some o=>
   match BZ o ops a with
   | none=>none
   | some false=>(a.put o.dst (some (.bY []))).map (·,σ)
   | some true=>
     match lG P call o a.eval σ with
     | none=>none
     | some (v,σ')=>(a.put o.dst v).map (·,σ')
def Ho (P:Program) (call:Caller) (ops:Array Oper):List Nat->aV->au->Option (aV×au)
 | [],a,σ=>some (a,σ)
 | i::rest,a,σ=>
   match Uc P call ops i a σ with
   | some (a',σ')=>Ho P call ops rest a' σ'
   | none=>none
inductive dW where
 | normal
 | exit (id:Nat)
 | ret
def yO (P:Program) (σ:au) (a:aV):List ResultVar->Option (List AV)
 | []=>some []
 | .tmp t::rs=>match a.t.get t,yO P σ a rs with
   | some v,some r=>some (v::r)
   | _,_=>none
 | .cell t ty::rs=>match (a.t.get t).bind (uq P ty σ),yO P σ a rs with
   | some v,some r=>some (v::r)
   | _,_=>none
def Gn:List AV->AV
 | [v]=>v
 | l=>.bY l
def xK:List AV->Nat->Tr AV->Tr AV
 | [],_,t=>t
 | v::vs,k,t=>xK vs (k+1) (t.set k (some v))
abbrev yC:=Array Oper->aV->au->Option (aV×au)
abbrev vM:=FuncId->Option (List AV->au->Option (AV×au))
def Et (P:Program) (pr:vM) (run:Code->aV->au->Option (dW×aV×au)):Caller:=λf args σ=>
 match pr f with
 | some g=>g args σ
 | none=>
   match P.funcs[f]? with
   | none=>none
   | some fn=>match fn.body with
     | none=>none
     | some c=>
       match run c { t:=xK args 0 .nil,n:=max args.length fn.ntmps,gn:=P.globals.size } σ with
       | some (.normal,a',σ') | some (.ret,a',σ')=>(yO P σ' a' fn.results.toList).map λl=>(Gn l,σ')
       | _=>none
def rD (P:Program) (dr:Caller->yC) (pr:vM) (run:Code->aV->au->Option (dW×aV×au)) (c:Code) (a:aV) (σ:au):Option (dW×aV×au):=
 match c with
 | .skip=>some (.normal,a,σ)
 | .region _ ops false=>(Ho P (Et P pr run) ops (List.range ops.size) a σ).map λ(a,σ)=>(.normal,a,σ)
 | .region _ ops true=>(dr (Et P pr run) ops a σ).map λ(a,σ)=>(.normal,a,σ)
 | .seq x y=>
   match run x a σ with
   | some (.normal,a',σ')=>run y a' σ'
   | r=>r
 | .cond x y z=>
   match dB (a.eval x) with
   | some (.b t)=>run (if t then y else z) a σ
   | _=>none
 | .block id b=>
   match run b a σ with
   | some (.exit id',a',σ')=>if id'=id then some (.normal,a',σ') else some (.exit id',a',σ')
   | r=>r
 | .loop b=>
   match run b a σ with
   | some (.normal,a',σ')=>run (.loop b) a' σ'
   | r=>r
 | .exit id=>some (.exit id,a,σ)
 | .ret=>some (.ret,a,σ)
 | _=>none
structure xE where
 f:Program->(Caller->yC)->vM->(Code->aV->au->Option (dW×aV×au))->aV->au->Option (dW×aV×au)
def ahs:xE:=⟨λ_ _ _ _ a σ=>some (.normal,a,σ)⟩
def ahp (ops:Array Oper) (d:Bool):xE:=bif d then ⟨λP dr pr run a σ=>(dr (Et P pr run) ops a σ).map λ(a,σ)=>(.normal,a,σ)⟩
 else ⟨λP _ pr run a σ=>(Ho P (Et P pr run) ops (List.range ops.size) a σ).map λ(a,σ)=>(.normal,a,σ)⟩
def ahr (x y:Code):xE:=⟨λ_ _ _ run a σ=>match run x a σ with
    | some (.normal,a',σ')=>run y a' σ'
    | r=>r⟩
def ahm (x:Operand) (y z:Code):xE:=⟨λ_ _ _ run a σ=>match dB (a.eval x) with
    | some (.b t)=>run (if t then y else z) a σ
    | _=>none⟩
def ahl (id:Nat) (b:Code):xE:=⟨λ_ _ _ run a σ=>match run b a σ with
    | some (.exit id',a',σ')=>if id'=id then some (.normal,a',σ') else some (.exit id',a',σ')
    | r=>r⟩
def aho (b:Code):xE:=⟨λ_ _ _ run a σ=>match run b a σ with
    | some (.normal,a',σ')=>run (.loop b) a' σ'
    | r=>r⟩
def ahn (id:Nat):xE:=⟨λ_ _ _ _ a σ=>some (.exit id,a,σ)⟩
def ahq:xE:=⟨λ_ _ _ _ a σ=>some (.ret,a,σ)⟩
def KA:xE:=⟨λ_ _ _ _ _ _=>none⟩
def codeF (c:Code):xE:=
 Code.casesOn (motive:=λ_=>xE) c
  ahs
  (λ_ ops d=>ahp ops d)
  (λx y=>ahr x y)
  (λx y z=>ahm x y z)
  (λid b=>ahl id b)
  (λb=>aho b)
  (λ_ _ _ _=>KA)
  (λid=>ahn id)
  (λ_=>KA)
  (λ_=>KA)
  (λ_=>KA)
  ahq
  (λ_=>KA)
theorem codeF_eq (P:Program) (dr:Caller->yC) (pr:vM) (run:Code->aV->au->Option (dW×aV×au)) (c:Code) (a:aV) (σ:au):(codeF c).f P dr pr run a σ=rD P dr pr run c a σ:=by
 cases c with
 | region id ops d=>cases d<;>rfl
 | _=>rfl
def CJ (P:Program) (dr:Caller->yC) (pr:vM) (n:Nat):Code->aV->au->Option (dW×aV×au):=
 Nat.rec (motive:=λ_=>Code->aV->au->Option (dW×aV×au)) (λ_ _ _=>none) (λ_ run c a σ=>(codeF c).f P dr pr run a σ) n
theorem ZV (P:Program) (dr:Caller->yC) (pr:vM) (c:Code) (a:aV) (σ:au):CJ P dr pr 0 c a σ=none:=rfl
theorem um (P:Program) (dr:Caller->yC) (pr:vM) (n:Nat) (c:Code) (a:aV) (σ:au):CJ P dr pr (n+1) c a σ=rD P dr pr (CJ P dr pr n) c a σ:=codeF_eq P dr pr _ c a σ
def ZU (P:Program) (dr:Caller->yC) (pr:vM) (n:Nat):Caller:=Et P pr (CJ P dr pr n)
end
end Go.aJ
namespace Go.aJ
set_option linter.unusedSimpArgs false
noncomputable section
variable [aG]
set_option linter.unusedSectionVars false
set_option linter.unusedVariables false
theorem Hf {η:Env}:∀ {l:List AV} {vs:List Value},aA η l vs↔l.length=vs.length/\∀ (k:Nat) a x,l[k]? = some a->vs[k]? = some x->VR η a x
 | [],vs=>by
   simp only [aA];constructor
   ·rintro rfl;simp
   ·rintro ⟨h,_⟩;cases vs with
    | nil=>rfl
    | cons _ _=>simp at h
 | a::l,vs=>by
   simp only [aA];constructor
   ·rintro ⟨x,xs,rfl,h1,h2⟩
    have ih:=(Hf (l:=l) (vs:=xs)).1 h2;refine ⟨by simp [ih.1], ?_⟩;intro k b y hk hy;cases k with
    | zero=>simp at hk hy;subst hk;subst hy;exact h1
    | succ k=>simp at hk hy;exact ih.2 k b y hk hy
   ·rintro ⟨hl,h⟩
    cases vs with
    | nil=>simp at hl
    | cons x xs=>
      refine ⟨x,xs,rfl,h 0 a x (by simp) (by simp),(Hf (l:=l) (vs:=xs)).2 ⟨by simpa using hl, ?_⟩⟩;intro k b y hk hy;exact h (k+1) b y (by simpa using hk) (by simpa using hy)
theorem aA.length {η:Env} {l:List AV} {vs:List Value} (h:aA η l vs):l.length=vs.length:=(Hf.1 h).1
theorem aA.at {η:Env} {l:List AV} {vs:List Value} (h:aA η l vs) {k:Nat} {a:AV} (hk:l[k]? = some a):∃x,vs[k]? = some x/\VR η a x:=by
 have h':=Hf.1 h;obtain ⟨hlt,rfl⟩:=dX.1 hk;have:k < vs.length:=by omega
 exact ⟨vs[k],bM this,h'.2 k _ _ hk (bM this)⟩
theorem aA.of {η:Env} {l:List AV} {vs:List Value} (hl:l.length=vs.length) (h:∀ (k:Nat) a,l[k]? = some a->∃x,vs[k]? = some x/\VR η a x):aA η l vs:=
 Hf.2 ⟨hl,λk a x hk hx=>by obtain ⟨y,hy,hv⟩:=h k a hk;rw [hx] at hy;cases hy;exact hv⟩
theorem aA.append {η:Env} {l l':List AV} {vs vs':List Value} (h:aA η l vs) (h':aA η l' vs'):aA η (l++l') (vs++vs'):=by
 induction l generalizing vs with
 | nil=>simp only [aA] at h;subst h;simpa using h'
 | cons a l ih=>
   simp only [aA] at h;obtain ⟨x,xs,rfl,h1,h2⟩:=h;exact ⟨x,xs++vs',rfl,h1,ih h2⟩
theorem aA.take {η:Env} {l:List AV} {vs:List Value} (h:aA η l vs) (n:Nat):aA η (l.take n) (vs.take n):=by
 induction n generalizing l vs with
 | zero=>simp [aA]
 | succ n ih=>cases l with
   | nil=>simp only [aA] at h;subst h;simp [aA]
   | cons a l=>
     simp only [aA] at h;obtain ⟨x,xs,rfl,h1,h2⟩:=h;exact ⟨x,xs.take n,by simp,h1,ih h2⟩
theorem aA.drop {η:Env} {l:List AV} {vs:List Value} (h:aA η l vs) (n:Nat):aA η (l.drop n) (vs.drop n):=by
 induction n generalizing l vs with
 | zero=>simpa using h
 | succ n ih=>cases l with
   | nil=>simp only [aA] at h;subst h;simp [aA]
   | cons a l=>
     simp only [aA] at h;obtain ⟨x,xs,rfl,h1,h2⟩:=h;simpa using ih h2
theorem aA.cons {η:Env} {a:AV} {l:List AV} {x:Value} {vs:List Value} (h:VR η a x) (h':aA η l vs):aA η (a::l) (x::vs):=⟨x,vs,rfl,h,h'⟩
structure Env.le (η η':Env):Prop where
 pl:∀id q,η id=some q->η' id=some q
 ro:∀b o,η.ro b=some o->η'.ro b=some o
 gh:∀id,η.gh id=true->η'.gh id=true
theorem Env.le.refl (η:Env):η.le η:=⟨λ_ _ h=>h,λ_ _ h=>h,λ_ h=>h⟩
theorem Env.le.trans {a b c:Env} (h:a.le b) (h':b.le c):a.le c:=⟨λid q hq=>h'.pl id q (h.pl id q hq),λb o ho=>h'.ro b o (h.ro b o ho),λid hq=>h'.gh id (h.gh id hq)⟩
def Env.has (η:Env) (id:Nat):Prop:=(∃q,η id=some q)\/η.gh id=true
theorem Env.has.mono {η η':Env} {id:Nat} (h:η.has id) (hle:η.le η'):η'.has id:=h.elim (λ⟨q,hq⟩=>.inl ⟨q,hle.pl _ _ hq⟩) λhg=>.inr (hle.gh _ hg)
mutual
theorem GR.mono {ro ro':Nat->Option Obj} (h:∀b o,ro b=some o->ro' b=some o):∀ (a:GV) (v:Value),GR ro a v->GR ro' a v
 | .b _,_,hv=>by simpa only [GR] using hv
 | .i _ _,_,hv=>by simpa only [GR] using hv
 | .s _,_,hv=>by simpa only [GR] using hv
 | .g l,_,hv=>by simp only [GR] at hv ⊢;obtain ⟨x,e,h1⟩:=hv;exact ⟨x,e,aK.mono h l x h1⟩
 | .l xs,_,hv=>by
   simp only [GR] at hv ⊢;rcases hv with hv | ⟨bl,off,c,ys,sz,e,hc,h1,h2,h3⟩
   ·exact .inl hv
   exact .inr ⟨bl,off,c,ys,sz,e,hc,aK.mono h xs ys h1,h2,λhn=>by obtain ⟨cs,elem,fr,h4,h5⟩:=h3 hn;exact ⟨cs,elem,fr,h _ _ h4,h5⟩⟩
theorem aK.mono {ro ro':Nat->Option Obj} (h:∀b o,ro b=some o->ro' b=some o):∀ (l:List GV) (vs:List Value),aK ro l vs->aK ro' l vs
 | [],_,hv=>by simpa only [aK] using hv
 | a::l,_,hv=>by
   simp only [aK] at hv ⊢;obtain ⟨x,xs,e,h1,h2⟩:=hv;exact ⟨x,xs,e,GR.mono h a x h1,aK.mono h l xs h2⟩
end
mutual
theorem VR.mono {η η':Env} (h:η.le η'):∀ (a:AV) (v:Value),VR η a v->VR η' a v
 | .b _,_,hv=>by simpa only [VR] using hv
 | .i _ _,_,hv=>by simpa only [VR] using hv
 | .s _,_,hv=>by simpa only [VR] using hv
 | .jB,_,hv=>by simpa only [VR] using hv
 | .p _ _,_,hv=>by simp only [VR] at hv ⊢;obtain ⟨q,hq,e⟩:=hv;exact ⟨q,h.pl _ _ hq,e⟩
 | .bT,_,hv=>by simpa only [VR] using hv
 | .sl _ _ _ _,_,hv=>by simp only [VR] at hv ⊢;obtain ⟨q,hq,e⟩:=hv;exact ⟨q,h.pl _ _ hq,e⟩
 | .oC,_,hv=>by simpa only [VR] using hv
 | .mp _,_,hv=>by simp only [VR] at hv ⊢;obtain ⟨q,hq,e⟩:=hv;exact ⟨q,h.pl _ _ hq,e⟩
 | .yw,_,hv=>by simpa only [VR] using hv
 | .fn _ fi cs,_,hv=>by
   simp only [VR] at hv ⊢;obtain ⟨us,vs,e,h1,h2⟩:=hv;exact ⟨us,vs,e,aA.mono h fi us h1,aA.mono h cs vs h2⟩
 | .qM,_,hv=>by simpa only [VR] using hv
 | .dY _ a,_,hv=>by simp only [VR] at hv ⊢;obtain ⟨x,e,h1⟩:=hv;exact ⟨x,e,VR.mono h a x h1⟩
 | .agg l,_,hv=>by simp only [VR] at hv ⊢;obtain ⟨x,e,h1⟩:=hv;exact ⟨x,e,aA.mono h l x h1⟩
 | .bY l,_,hv=>by simp only [VR] at hv ⊢;obtain ⟨x,e,h1⟩:=hv;exact ⟨x,e,aA.mono h l x h1⟩
 | .z _ _ _,_,hv=>by simpa only [VR] using hv
 | .ro l,_,hv=>by
   simp only [VR] at hv ⊢;rcases hv with hv | ⟨bl,off,c,xs,sz,e,hc,h1,h2,h3⟩
   ·exact .inl hv
   refine .inr ?_;exact ⟨bl,off,c,xs,sz,e,hc,aA.mono h l xs h1,h2,λhn=>by obtain ⟨cs,elem,fr,h4,h5⟩:=h3 hn;exact ⟨cs,elem,fr,h.ro _ _ h4,h5⟩⟩
 | .rp a _,_,hv=>by
   simp only [VR] at hv ⊢;obtain ⟨bl,base,cs,elem,fr,x,h1,h2,h3⟩:=hv;exact ⟨bl,base,cs,elem,fr,x,h.ro _ _ h1,VR.mono h a x h2,h3⟩
 | .nd _,_,hv=>by simp only [VR] at hv ⊢;obtain ⟨g,h1,h2,h3⟩:=hv;exact ⟨g,h1,h2,GR.mono h.ro _ _ h3⟩
 | .rx _ _,_,hv=>by simp only [VR] at hv ⊢;obtain ⟨g,bl,base,cs,elem,fr,x,h1,h2,h3,h4⟩:=hv;exact ⟨g,bl,base,cs,elem,fr,x,h1,h.ro _ _ h2,GR.mono h.ro _ _ h3,h4⟩
 | .sv _ _,_,hv=>by
   simp only [VR] at hv ⊢;obtain ⟨xs,h1,⟨q,hq,h2⟩ | ⟨hg,h2⟩⟩:=hv
   ·exact ⟨xs,h1,.inl ⟨q,h.pl _ _ hq,h2⟩⟩
   ·exact ⟨xs,h1,.inr ⟨h.gh _ hg,h2⟩⟩
 | .pv _ _ _,_,hv=>by simp only [VR] at hv ⊢;obtain ⟨q,k,i,hq,h2⟩:=hv;exact ⟨q,k,i,h.pl _ _ hq,h2⟩
 | .pd _ _,_,hv=>by
   simp only [VR] at hv ⊢;obtain ⟨xs,p,h1,h2,h3⟩:=hv;exact ⟨xs,p,h1,h2,λhn=>by obtain ⟨q,hq,h4⟩:=h3 hn;exact ⟨q,h.pl _ _ hq,h4⟩⟩
theorem aA.mono {η η':Env} (h:η.le η'):∀ (l:List AV) (vs:List Value),aA η l vs->aA η' l vs
 | [],_,hv=>by simpa only [aA] using hv
 | a::l,_,hv=>by
   simp only [aA] at hv ⊢;obtain ⟨x,xs,e,h1,h2⟩:=hv;exact ⟨x,xs,e,VR.mono h a x h1,aA.mono h l xs h2⟩
end
theorem Jc {α β:Type} {f:α->Option β}:∀ {l:List α} {r:List β},rX f l=some r->l.length=r.length/\∀ (k:Nat) x,l[k]? = some x->∃y,r[k]? = some y/\f x=some y
 | [],r,h=>by simp [rX] at h;subst h;simp
 | x::xs,r,h=>by
   simp only [rX] at h;split at h
   ·cases h
   ·rename_i y hy
    split at h
    ·cases h
    ·rename_i ys hys
     cases h;have ih:=Jc hys;refine ⟨by simp [ih.1],λk z hz=>?_⟩;cases k with
     | zero=>simp at hz;subst hz;exact ⟨y,by simp,hy⟩
     | succ k=>simp at hz;obtain ⟨u,hu,hf⟩:=ih.2 k z hz;exact ⟨u,by simpa using hu,hf⟩
theorem afO {η:Env}:∀ (n:Nat) (a:AV) (v:Value),a.toVal n=some v->VR η a v:=by
 intro n;induction n with
 | zero=>intro a v h;simp [AV.toVal] at h
 | succ n ih=>
   intro a v h;have lst:∀ (l:List AV) (vs:List Value),rX (AV.toVal n) l=some vs->aA η l vs:=λl vs hl=>by
    have:=Jc hl;exact aA.of this.1 λk a hk=>by obtain ⟨y,hy,hf⟩:=this.2 k a hk;exact ⟨y,hy,ih _ _ hf⟩
   cases a<;>simp only [AV.toVal,aX,aT] at h<;>simp only [VR]<;>first | exact h.symm | (cases h;done) | skip
   case dY t a=>obtain ⟨y,h1,h2⟩:=h;exact ⟨_,h2.symm,ih _ _ h1⟩
   case agg l=>obtain ⟨y,h1,h2⟩:=h;exact ⟨_,h2.symm,lst _ _ h1⟩
   case bY l=>obtain ⟨y,h1,h2⟩:=h;exact ⟨_,h2.symm,lst _ _ h1⟩
theorem afP {η:Env}:∀ (n:Nat) (a:AV) (v x:Value),a.toVal n=some v->VR η a x->x=v:=by
 intro n;induction n with
 | zero=>intro a v x h;simp [AV.toVal] at h
 | succ n ih=>
   intro a v x h hx;have lst:∀ (l:List AV) (vs us:List Value),rX (AV.toVal n) l=some vs->aA η l us->us=vs:=λl vs us hl hu=>by
    have h1:=Jc hl;have h2:=Hf.1 hu;apply GX;intro k;by_cases hk:k < l.length
    ·obtain ⟨y,hy,hf⟩:=h1.2 k _ (bM hk)
     obtain ⟨z,hz,hv⟩:=hu.at (bM hk);rw [hy,hz,ih _ _ _ hf hv]
    ·rw [tZ (by omega),tZ (by omega)]
   cases a<;>simp only [AV.toVal,aX,aT] at h<;>simp only [VR] at hx<;>first | exact hx.trans h | (cases h;done) | skip
   case dY t a=>obtain ⟨y,h1,h2⟩:=h;obtain ⟨z,rfl,hz⟩:=hx;rw [<- h2,ih _ _ _ h1 hz]
   case agg l=>obtain ⟨y,h1,h2⟩:=h;obtain ⟨z,rfl,hz⟩:=hx;rw [<- h2,lst _ _ _ h1 hz]
   case bY l=>obtain ⟨y,h1,h2⟩:=h;obtain ⟨z,rfl,hz⟩:=hx;rw [<- h2,lst _ _ _ h1 hz]
theorem Bj {η:Env}:∀ (n:Nat) (v:Value) (a:AV),kN n v=some a->VR η a v:=by
 intro n;induction n with
 | zero=>intro v a h;simp [kN] at h
 | succ n ih=>
   intro v a h;have lst:∀ (vs:List Value) (l:List AV),rX (kN n) vs=some l->aA η l vs:=λvs l hl=>by
    have h1:=Jc hl;refine aA.of h1.1.symm λk a hk=>?_;have hlt:k < vs.length:=by have:=(dX.1 hk).1;omega
    obtain ⟨y,hy,hf⟩:=h1.2 k _ (bM hlt);rw [hk] at hy;cases hy;exact ⟨_,bM hlt,ih _ _ hf⟩
   unfold kN at h;split at h;all_goals try (cases h;done)
   all_goals try (cases h;simp only [VR];done)
   ·simp only [aX] at h;obtain ⟨y,h1,rfl⟩:=h;simp only [VR];exact ⟨_,rfl,ih _ _ h1⟩
   ·simp only [aX] at h;obtain ⟨y,h1,rfl⟩:=h;simp only [VR];exact ⟨_,rfl,lst _ _ h1⟩
   ·simp only [aX] at h;obtain ⟨y,h1,rfl⟩:=h;simp only [VR];exact ⟨_,rfl,lst _ _ h1⟩
theorem zF {α:Type} {P:Program} {s:Sem α} {a:α} (h:oH P s=some a) (w:World):s.run P w=.ok a w:=by
 induction s with
 | pure x=>simp [oH] at h;subst h;rfl
 | program k ih=>exact ih P h
 | mark m k ih=>exact ih h
 | _=>simp [oH] at h
omit [aG] in
theorem Tr.ab3 {α:Type}:∀p:List Bool,(Tr.nil:Tr α).uK p=none
 | []=>rfl
 | b::p=>by
   show Tr.uK p (bif b then Tr.nil else Tr.nil)=none
   cases b<;>exact Tr.ab3 p
omit [aG] in
@[simp] theorem Tr.get_nil {α:Type} (m:Nat):(Tr.nil:Tr α).get m=none:=Tr.ab3 _
omit [aG] in
theorem Tr.Vg {α:Type} (x:Option α):∀ (p q:List Bool) (t:Tr α),(t.Gh x p).uK q=if q=p then x else t.uK q
 | [],[],t=>rfl
 | [],c::q,t=>by
   rw [ah (by simp)];rfl
 | b::p,[],t=>by
   rw [ah (by simp)];cases b<;>rfl
 | b::p,c::q,t=>by
   have h1:(t.Gh x (b::p))=bif b then .nd t.val (t.Ba.Gh x p) t.Bz else .nd t.val t.Ba (t.Bz.Gh x p):=rfl
   have h2:∀u:Tr α,u.uK (c::q)=(bif c then u.Ba else u.Bz).uK q:=λ_=>rfl;rw [h1,h2,h2];cases b<;>cases c
   ·show (t.Bz.Gh x p).uK q=_
    rw [Tr.Vg x p q];simp
   ·show t.Ba.uK q=_
    simp
   ·show t.Bz.uK q=_
    simp
   ·show (t.Ba.Gh x p).uK q=_
    rw [Tr.Vg x p q];simp
def SN:List Bool->Nat
 | []=>0
 | b::p=>2 * SN p+(if b then 1 else 2)
omit [aG] in
theorem afZ:∀ (f n:Nat),n < 2 ^ f->SN (MB f n)=n
 | 0,n,h=>by
   have:n=0:=by simpa using h
   subst this;rfl
 | f+1,n,h=>by
   have h1:MB (f+1) n=bif Nat.beq n 0 then [] else Nat.beq ((n - 1) % 2) 0::MB f ((n - 1) / 2):=rfl
   rw [h1];by_cases h0:n=0
   ·subst h0;rfl
   ·have hb:Nat.beq n 0=false:=by cases n with | zero=>exact absurd rfl h0 | succ n=>rfl
    rw [hb];show 2 * SN (MB f ((n - 1) / 2))+_=n
    have hp:2 ^ (f+1)=2 * 2 ^ f:=by rw [G7,D7]
    rw [afZ f _ (by omega)];rcases Nat.mod_two_eq_zero_or_one (n - 1) with h2 | h2
    ·rw [h2];show 2 * ((n - 1) / 2)+1=n;omega
    ·rw [h2];show 2 * ((n - 1) / 2)+2=n;omega
omit [aG] in
theorem afY (n:Nat):SN (path n)=n:=afZ _ _ Nat.lt_log2_self
omit [aG] in
theorem aow {n m:Nat}:path n=path m↔n=m:=⟨λh=>by rw [<- afY n,h,afY],λh=>by rw [h]⟩
omit [aG] in
theorem Tr.uM {α:Type} (t:Tr α) (n m:Nat) (x:Option α):(t.set n x).get m=if m=n then x else t.get m:=by
 unfold Tr.get Tr.set;rw [Tr.Vg];by_cases h:m=n
 ·subst h;simp
 ·rw [ah h,ah (λe=>h (aow.1 e))]
omit [aG] in
theorem au.get_put (σ:au) (id id':Nat) (o:aY):(σ.put id o).get id'=if id'=id then some o else σ.get id':=Tr.uM _ _ _ _
omit [aG] in
theorem au.wX (σ:au) (id id':Nat):(σ.kill id).get id'=if id'=id then none else σ.get id':=Tr.uM _ _ _ _
omit [aG] in
theorem au.oQ (σ:au) (id':Nat) (o:aY):(σ.new o).get id'=if id'=σ.next then some o else σ.get id':=Tr.uM _ _ _ _
def aY.own:aY->Bool
 | .cells _ _ rw _=>rw
 | _=>true
structure ql (P:Program) (η:Env) (q:Place) (c:List AV) (et:TypeId) (rw opn:Bool) (cs:Array Value) (elem:TypeId) (fr:Nat×Nat):Prop where
 fits:q.ba+q.sz<=cs.size
 le:c.length<=q.sz
 shut:opn=false->c.length=q.sz
 cell:∀ (k:Nat) a,c[k]? = some a->∃x,cs[q.ba+k]? = some x/\VR η a x
 free:rw=true->∀k,k < q.sz->¬ (fr.1<=q.ba+k/\q.ba+k < fr.2)
 whole:et≠0->elem=et/\q.ba+q.sz=cs.size/\(opn=false->q.ba=0)
 room:opn=true->et≠0/\0 < q.es/\sizeT P et=some q.es
def yg (kk:Option IntKind) (a:GV):Prop:=match kk with
 | some k=>∃n,a=.i k n
 | none=>∃s,a=.s s
def Jz (sz:Option Nat) (b:GV):Prop:=match sz with
 | none=>b.scalar=true
 | some n=>∃cs,b=.g cs/\cs.length=n/\cs.all GV.scalar=true
def qA (ro:Nat->Option Obj) (kk:Option IntKind) (sz:Option Nat):List GV->List MapEntry->Prop
 | [],ms=>ms=[]
 | x::xs,ms=>∃a b m rest,x=.g [a,b]/\ms=m::rest/\yg kk a/\Jz sz b/\GR ro a m.key/\GR ro b m.val/\qA ro kk sz xs rest
theorem qA.mono {ro ro':Nat->Option Obj} (h:∀b o,ro b=some o->ro' b=some o) {kk:Option IntKind} {sz:Option Nat}:∀ {xs:List GV} {ms:List MapEntry},qA ro kk sz xs ms->qA ro' kk sz xs ms
 | [],ms,r=>r
 | x::xs,ms,r=>by
   obtain ⟨a,b,m,rest,e1,e2,h1,h2,h3,h4,h5⟩:=r;exact ⟨a,b,m,rest,e1,e2,h1,h2,GR.mono h _ _ h3,GR.mono h _ _ h4,qA.mono h h5⟩
def OR (P:Program) (η:Env) (q:Place) (w:World):aY->Prop
 | .cells c et rw opn=>∃cs elem fr,w.heap[q.bl]? = some (.cells cs elem fr)/\ql P η q c et rw opn cs elem fr
 | .iter s pos=>w.heap[q.bl]? = some (.stringIter ⟨⟨s⟩⟩ pos)/\q.ba=0
 | .map es=>∃ms clock,w.heap[q.bl]? = some (.map ms clock)/\ms.size=es.length/\∀ (k:Nat) e,es[k]? = some e->∃m,ms[k]? = some m/\VR η e.1 m.key/\VR η e.2 m.val
 | .vec n et f=>∃xs cs elem fr ys,aG.val n=some (.l xs)/\w.heap[q.bl]? = some (.cells cs elem fr)/\aK η.ro xs ys/\(∀y∈ys,y.cells.size=q.es)/\CW cs q.ba (dh ys)/\xs.length * q.es<=q.sz/\ql P η q [] et true true cs elem fr/\(∀x∈xs,x.cells.all GV.scalar=true)/\(f=true->q.es<=q.sz)
 | .smap n kk sz=>∃xs ms clock,aG.val n=some (.l xs)/\w.heap[q.bl]? = some (.map ms clock)/\qA η.ro kk sz xs ms.toList
 | .pmap es=>(es.map (·.1)).Nodup/\∃ms clock ms',w.heap[q.bl]? = some (.map ms clock)/\ms.toList.Perm ms'/\ms'.length=es.length/\∀ (k:Nat) e,es[k]? = some e->∃m,ms'[k]? = some m/\m.key=.string ⟨⟨e.1⟩⟩/\VR η e.2 m.val
 | .iterM none=>q.ba=0/\∃since last,w.heap[q.bl]? = some (.mapIter none since #[] last)
 | .iterM (some m)=>q.ba=0/\∃since last q',η m=some q'/\w.heap[q.bl]? = some (.mapIter (some q'.bl) since #[] last)
theorem ql.mono {P:Program} {η η':Env} (h:η.le η') {q:Place} {c:List AV} {et:TypeId} {rw opn:Bool} {cs:Array Value} {elem:TypeId} {fr:Nat×Nat}
 (r:ql P η q c et rw opn cs elem fr):ql P η' q c et rw opn cs elem fr:=
 { r with cell:=λk a hk=>by obtain ⟨x,hx,hv⟩:=r.cell k a hk;exact ⟨x,hx,VR.mono h _ _ hv⟩ }
theorem OR.mono {P:Program} {η η':Env} (h:η.le η') {q:Place} {w:World} {o:aY} (r:OR P η q w o):OR P η' q w o:=by
 cases o with
 | cells c et rw opn=>obtain ⟨cs,elem,fr,h1,h2⟩:=r;exact ⟨cs,elem,fr,h1,h2.mono h⟩
 | iter s pos=>exact r
 | map es=>
   obtain ⟨ms,clock,h1,h2,h3⟩:=r;refine ⟨ms,clock,h1,h2,λk e hk=>?_⟩;obtain ⟨m,hm,ha,hb⟩:=h3 k e hk;exact ⟨m,hm,VR.mono h _ _ ha,VR.mono h _ _ hb⟩
 | iterM m=>
   cases m with
   | none=>exact r
   | some m=>
     obtain ⟨h0,since,last,q',h1,h2⟩:=r;exact ⟨h0,since,last,q',h.pl _ _ h1,h2⟩
 | smap n kk sz=>
   obtain ⟨xs,ms,clock,h1,h2,h3⟩:=r;exact ⟨xs,ms,clock,h1,h2,h3.mono h.ro⟩
 | pmap es=>
   obtain ⟨hn,ms,clock,ms',h1,hp,h2,h3⟩:=r;refine ⟨hn,ms,clock,ms',h1,hp,h2,λk e hk=>?_⟩;obtain ⟨m,hm,ha,hb⟩:=h3 k e hk;exact ⟨m,hm,ha,VR.mono h _ _ hb⟩
 | vec n et f=>
   obtain ⟨xs,cs,elem,fr,ys,h1,h2,h3,h4,h5,h6,h7,h8⟩:=r;exact ⟨xs,cs,elem,fr,ys,h1,h2,aK.mono h.ro _ _ h3,h4,h5,h6,h7.mono h,h8⟩
theorem OR.heap {P:Program} {η:Env} {q:Place} {w w':World} {o:aY} (h:w'.heap[q.bl]? = w.heap[q.bl]?) (r:OR P η q w o):OR P η q w' o:=by
 cases o with
 | iterM m=>cases m<;>simp only [OR] at r ⊢<;>rw [h]<;>exact r
 | _=>simp only [OR] at r ⊢;rw [h];exact r
def NY (a:AV) (x:Value):Prop:=a.toVal 4=some x\/∃k lo hi m,a=.z k lo hi/\x=.int k m/\lo<=m/\m<=hi
def TV (c:List AV) (cs:Array Value):Prop:=(∀ (k:Nat) a,c[k]? = some a->∃x,cs[k]? = some x/\NY a x)/\(c≠[]->cs.size=c.length)/\(c=[]->∃t q,cs[0]? = some (.iface t q))
theorem NY.vr {η:Env} {a:AV} {x:Value} (h:NY a x):VR η a x:=by
 rcases h with h | ⟨k,lo,hi,m,rfl,rfl,h1,h2⟩
 ·exact afO 4 a x h
 ·simp only [VR];exact ⟨m,h1,h2,rfl⟩
def CG (η:Env) (g:Nat) (c:List AV):Prop:=∃cs elem fr,η.ro g=some (.cells cs elem fr)/\c.length<=cs.size/\TV c cs
theorem CG.mono {η η':Env} {g:Nat} {c:List AV} (h:CG η g c) (hle:η.le η'):CG η' g c:=by
 obtain ⟨cs,elem,fr,h1,h2⟩:=h;exact ⟨cs,elem,fr,hle.ro _ _ h1,h2⟩
def Live (P:Program) (η:Env) (w:World) (id:Nat) (o:aY):Prop:=(∃q,η id=some q/\OR P η q w o)\/(η.gh id=true/\∃n et f,o=.vec n et f/\aG.val n=some (.l []))
theorem Live.mono {P:Program} {η η':Env} (h:η.le η') {w:World} {id:Nat} {o:aY} (r:Live P η w id o):Live P η' w id o:=by
 rcases r with ⟨q,hq,hr⟩ | ⟨hg,h2⟩
 ·exact .inl ⟨q,h.pl _ _ hq,hr.mono h⟩
 ·exact .inr ⟨h.gh _ hg,h2⟩
theorem Live.heap {P:Program} {η:Env} {w w':World} {id:Nat} {o:aY} (r:Live P η w id o) (h:∀q,η id=some q->OR P η q w o->w'.heap[q.bl]? = w.heap[q.bl]?):Live P η w' id o:=by
 rcases r with ⟨q,hq,hr⟩ | h2
 ·exact .inl ⟨q,hq,OR.heap (h q hq hr) hr⟩
 ·exact .inr h2
structure SR (P:Program) (η:Env) (σ:au) (w:World):Prop where
 kY:∀g,g<=P.globals.size->∃sz es,η g=some ⟨g,0,sz,es⟩
 dom:∀id q,η id=some q->id < σ.next
 live:∀id o,σ.get id=some o->Live P η w id o
 jq:∀id,η.gh id=true->η id=none/\id < σ.next
 sep:∀id o id' o' q q',σ.get id=some o->o.own=true->σ.get id'=some o'->id≠id'->η id=some q->η id'=some q'->q.bl≠q'.bl
 iP:∀b o,η.ro b=some o->w.heap[b]? = some o
 ku:∀id o q,σ.get id=some o->o.own=true->η id=some q->η.ro q.bl=none
 tabs:∀p∈aG.tabs,CG η p.1 p.2
def aY.ami:aY->Bool
 | .vec _ _ _=>true
 | _=>false
theorem SR.obj {P:Program} {η:Env} {σ:au} {w:World} (h:SR P η σ w):∀id o,σ.get id=some o->o.ami=false->∃q,η id=some q/\OR P η q w o:=by
 intro id o ho hv;rcases h.live id o ho with h1 | ⟨_,n,et,f,rfl,_⟩
 ·exact h1
 ·cases hv
theorem SR.at {P:Program} {η:Env} {σ:au} {w:World} (h:SR P η σ w) {id:Nat} {o:aY} {q:Place} (ho:σ.get id=some o) (hq:η id=some q):OR P η q w o:=by
 rcases h.live id o ho with ⟨q',hq',hr⟩ | ⟨hg,_⟩
 ·rw [hq] at hq';cases hq';exact hr
 ·rw [(h.jq id hg).1] at hq;cases hq
structure St (P:Program) (η:Env) (σ:au) (w:World) (η':Env) (σ':au) (w':World):Prop where
 ext:η.le η'
 rel:SR P η' σ' w'
 size:w.heap.size<=w'.heap.size
 keep:∀bl,bl < w.heap.size->(∀id o q,σ.get id=some o->o.own=true->σ.lock<=id->η id=some q->q.bl≠bl)->w'.heap[bl]? = w.heap[bl]?
 own:∀id o q,σ'.get id=some o->o.own=true->σ.lock<=id->η' id=some q->w.heap.size<=q.bl\/∃dF o0 q0,σ.get dF=some o0/\o0.own=true/\σ.lock<=dF/\η dF=some q0/\q0.bl=q.bl
 os:w'.os=w.os
 tape:w'.tape=w.tape
 output:w'.output=w.output
 lock:σ'.lock=σ.lock
 next:σ.next<=σ'.next
 new:∀id,η'.has id->η.has id\/(σ.next<=id/\id < σ'.next)
 oZ:∀b,η'.ro b≠none->η.ro b≠none\/w.heap.size<=b\/∃dF o0 q0,σ.get dF=some o0/\o0.own=true/\σ.lock<=dF/\η dF=some q0/\q0.bl=b
theorem St.refl {P:Program} {η:Env} {σ:au} {w:World} (h:SR P η σ w):St P η σ w η σ w:=
 ⟨Env.le.refl _,h,dH _,λ_ _ _=>rfl,λid o q h1 h2 h3 h4=>.inr ⟨id,o,q,h1,h2,h3,h4,rfl⟩,rfl,rfl,rfl,rfl,dH _,λ_ h=>.inl h,λ_ h=>.inl h⟩
theorem St.trans {P:Program} {η η1 η2:Env} {σ σ1 σ2:au} {w w1 w2:World} (h:St P η σ w η1 σ1 w1) (k:St P η1 σ1 w1 η2 σ2 w2):St P η σ w η2 σ2 w2:=by
 refine ⟨h.ext.trans k.ext,k.rel,jw h.size k.size, ?_, ?_,k.os.trans h.os,k.tape.trans h.tape,k.output.trans h.output,k.lock.trans h.lock,jw h.next k.next, ?_, ?_⟩;rotate_right
 ·intro b hb
  rcases k.oZ b hb with h1 | h1 | ⟨dF,o0,q0,a1,b1,c1,d1,e1⟩
  ·exact h.oZ b h1
  ·exact .inr (.inl (jw h.size h1))
  ·rcases h.own dF o0 q0 a1 b1 (h.lock ▸ c1) d1 with h2 | ⟨id2,o2,q2,a2,b2,c2,d2,e2⟩
   ·right;left;omega
   ·exact .inr (.inr ⟨id2,o2,q2,a2,b2,c2,d2,e2.trans e1⟩)
 rotate_right
 ·intro id hq
  rcases k.new id hq with h1 | ⟨h1,h2⟩
  ·rcases h.new id h1 with h3 | ⟨h3,h4⟩
   ·exact .inl h3
   ·exact .inr ⟨h3,vI h4 k.next⟩
  ·exact .inr ⟨Nat.le_trans h.next h1,h2⟩
 ·intro bl hbl hno
  rw [k.keep bl (vI hbl h.size) ?_,h.keep bl hbl hno];intro id o q h1 h2 h3 h4;rcases h.own id o q h1 h2 (h.lock ▸ h3) h4 with h5 | ⟨dF,o0,q0,a,b,c,d,e⟩
  ·omega
  ·rw [<- e];exact hno dF o0 q0 a b c d
 ·intro id o q h1 h2 h3 h4
  rcases k.own id o q h1 h2 (by rw [h.lock];exact h3) h4 with h5 | ⟨dF,o0,q0,a,b,c,d,e⟩
  ·exact .inl (jw h.size h5)
  ·rcases h.own dF o0 q0 a b (h.lock ▸ c) d with h6 | ⟨id1,o1,q1,a1,b1,c1,d1,e1⟩
   ·left;omega
   ·exact .inr ⟨id1,o1,q1,a1,b1,c1,d1,e1.trans e⟩
theorem SR.hasLt {P:Program} {η:Env} {σ:au} {w:World} (h:SR P η σ w) {id:Nat} (hh:η.has id):id < σ.next:=hh.elim (λ⟨q,hq⟩=>h.dom id q hq) λhg=>(h.jq id hg).2
theorem SR.Ll {P:Program} {η:Env} {σ:au} {w:World} (h:SR P η σ w) {id:Nat} {o:aY} (ho:σ.get id=some o):η.has id:=(h.live id o ho).elim (λ⟨q,hq,_⟩=>.inl ⟨q,hq⟩) λ⟨hg,_⟩=>.inr hg
theorem St.an0 {P:Program} {η η':Env} {σ σ':au} {w w':World} (h:St P η σ w η' σ' w') {id:Nat} {q:Place} (hq:η' id=some q):η id=some q\/(σ.next<=id/\id < σ'.next):=by
 rcases h.new id (.inl ⟨q,hq⟩) with (⟨p,hp⟩ | hg) | hn
 ·have:=h.ext.pl _ _ hp
  rw [hq] at this;cases this;exact .inl hp
 ·have:=(h.rel.jq id (h.ext.gh _ hg)).1
  rw [hq] at this;cases this
 ·exact .inr hn
theorem SR.drew {P:Program} {η:Env} {σ:au} {w:World} (h:SR P η σ w):SR P η σ { w with drawn:=w.drawn+1 }:=
 ⟨h.kY,h.dom,λid o ho=>(h.live id o ho).heap (w:=w) (λ_ _ _=>rfl),h.jq,h.sep,h.iP,h.ku,h.tabs⟩
theorem St.drew {P:Program} {η:Env} {σ:au} {w:World} (h:SR P η σ w):St P η σ w η σ { w with drawn:=w.drawn+1 }:=
 ⟨Env.le.refl _,h.drew,dH _,λ_ _ _=>rfl,λid o q h1 h2 h3 h4=>.inr ⟨id,o,q,h1,h2,h3,h4,rfl⟩,rfl,rfl,rfl,rfl,dH _,λ_ h=>.inl h,λ_ h=>.inl h⟩
end
end Go.aJ
namespace Go.aJ
set_option linter.unusedSimpArgs false
noncomputable section
variable [aG]
set_option linter.unusedSectionVars false
set_option linter.unusedVariables false
theorem oO (bl off n:Nat):(⟨bl,off,none⟩:Addr).add n=⟨bl,off+n,none⟩:=by
 unfold Addr.add;split
 ·next h=>simp [h]
 ·rfl
theorem KE {w:World} {bl off:Nat} {cs:Array Value} {elem:TypeId} {fr:Nat×Nat} (h:w.heap[bl]? = some (.cells cs elem fr)) :
 w.cell? ⟨bl,off,none⟩=cs[off]?:=by
 simp [World.cell?,h]
theorem abU {w:World} {bl off:Nat} {cs:Array Value} {elem:TypeId} {fr:Nat×Nat} (h:w.heap[bl]? = some (.cells cs elem fr)) :
 w.frozen? ⟨bl,off,none⟩=(decide (fr.1<=off)&&decide (off < fr.2)):=by
 simp [World.frozen?,h]
theorem run_loadCellsFrom {P:Program} {w:World} {bl off:Nat} {cs:Array Value} {elem:TypeId} {fr:Nat×Nat} (h:w.heap[bl]? = some (.cells cs elem fr)) :
 ∀ (n i:Nat) (acc:Array Value),off+i+n<=cs.size->
   (loadCellsFrom ⟨bl,off,none⟩ i n acc).run P w=.ok (acc++(cs.toList.drop (off+i)).take n) w:=by
 intro n;induction n with
 | zero=>intro i acc _;simp [loadCellsFrom]
 | succ n ih=>
   intro i acc hle;have hlt:off+i < cs.size:=by omega
   have hc:w.cell? ⟨bl,off+i,none⟩=some cs[off+i]:=by rw [KE h];simp [hlt]
   simp only [loadCellsFrom,aO,oO];have hl:(load ⟨bl,off+i,none⟩).run P w=.ok cs[off+i] w:=by simp [load,Sem.run,hc]
   rw [hl];simp only [aN];rw [ih (i+1) _ (by omega)];congr 1;have:cs.toList.drop (off+i)=cs[off+i]::cs.toList.drop (off+(i+1)):=by
    rw [iC (by simpa using hlt)];simp [jv]
   rw [this];simp
theorem run_loadCells {P:Program} {w:World} {bl off n:Nat} {cs:Array Value} {elem:TypeId} {fr:Nat×Nat} (h:w.heap[bl]? = some (.cells cs elem fr)) (hle:off+n<=cs.size) :
 (loadCells ⟨bl,off,none⟩ n).run P w=.ok ⟨(cs.toList.drop off).take n⟩ w:=by
 unfold loadCells;rw [run_loadCellsFrom h n 0 #[] (by simpa using hle)];simp
theorem ae8 {P:Program} {w:World} {bl off:Nat} {cs:Array Value} {elem:TypeId} {fr:Nat×Nat} {x:Value} (h:w.heap[bl]? = some (.cells cs elem fr)) (hx:cs[off]? = some x) :
 (load ⟨bl,off,none⟩).run P w=.ok x w:=by
 have hc:w.cell? ⟨bl,off,none⟩=some x:=by rw [KE h,hx]
 simp [load,Sem.run,hc]
def setFrom (cs:Array Value) (off:Nat):List Value->Array Value
 | []=>cs
 | v::vs=>setFrom (cs.setIfInBounds off v) (off+1) vs
theorem Jq:∀ (vs:List Value) (cs:Array Value) (off:Nat),(setFrom cs off vs).size=cs.size
 | [],_,_=>rfl
 | v::vs,cs,off=>by rw [setFrom,Jq vs];simp
theorem Ry:∀ (vs:List Value) (cs:Array Value) (off k:Nat),off+vs.length<=cs.size->
 (setFrom cs off vs)[k]? = if off<=k/\k < off+vs.length then vs[k - off]? else cs[k]?
 | [],cs,off,k,h=>by simp [setFrom];omega
 | v::vs,cs,off,k,h=>by
   simp only [jK] at h;rw [setFrom,Ry vs _ _ _ (by simp;omega)];by_cases h1:off+1<=k/\k < off+1+vs.length
   ·rw [aj h1,aj ⟨by omega,by simp;omega⟩]
    have:k - off=(k - (off+1))+1:=by omega
    rw [this];simp
   ·rw [ah h1]
    by_cases h2:k=off
    ·subst h2
     rw [aj ⟨Nat.le_refl _,by simp⟩];have hk:k < cs.size:=by omega
     simp [hk]
    ·rw [ah (by simp only [jK];omega)]
     rw [zU,ah (λe=>h2 e.symm)]
def lg (w:World) (bl:Nat) (o:Obj):World:={ w with heap:=w.heap.setIfInBounds bl o }
theorem zI {w:World} {bl:Nat} {o o':Obj} (h:w.heap[bl]? = some o):(lg w bl o').heap[bl]? = some o':=by
 have:bl < w.heap.size:=(nN.1 h).1;simp [lg,this]
theorem BD {w:World} {bl k:Nat} {o':Obj} (h:k≠bl):(lg w bl o').heap[k]? = w.heap[k]?:=by
 simp only [lg];rw [zU,ah (λe=>h e.symm)]
theorem BG {w:World} {bl:Nat} {o':Obj}:(lg w bl o').heap.size=w.heap.size:=by simp [lg]
theorem arz {w:World} {bl:Nat} {o o':Obj}:lg (lg w bl o) bl o'=lg w bl o':=by
 simp only [lg];congr 1;apply Nw;intro i;simp only [zU,Array.size_setIfInBounds];split<;>rfl
theorem setCell_eq {w:World} {bl off:Nat} {cs:Array Value} {elem:TypeId} {fr:Nat×Nat} (h:w.heap[bl]? = some (.cells cs elem fr)) (v:Value) :
 w.setCell ⟨bl,off,none⟩ v=lg w bl (.cells (cs.setIfInBounds off v) elem fr):=by
 unfold World.setCell lg;congr 1;apply Nw;intro i;rw [GH,zU];by_cases e:bl=i
 ·subst e
  have:bl < w.heap.size:=(nN.1 h).1;rw [aj rfl,aj rfl,aj this,h];rfl
 ·rw [ah e,ah e]
theorem arx {w:World} {bl:Nat} {o:Obj} (h:w.heap[bl]? = some o):lg w bl o=w:=by
 unfold lg;have:w.heap.setIfInBounds bl o=w.heap:=by
  apply Nw;intro i;rw [zU];by_cases e:bl=i
  ·subst e
   have:bl < w.heap.size:=(nN.1 h).1;rw [aj rfl,aj this,h]
  ·rw [ah e]
 rw [this]
def oD:Value->Bool
 | .agg _ | .tuple _=>false
 | _=>true
theorem Yk {P:Program}:∀ (vs:List Value) (w:World) (bl off i:Nat) (cs:Array Value) (elem:TypeId) (fr:Nat×Nat),
 w.heap[bl]? = some (.cells cs elem fr)->off+i+vs.length<=cs.size->(∀v∈vs,oD v=true)->
 (∀k,off+i<=k->k < off+i+vs.length->¬ (fr.1<=k/\k < fr.2))->
 (storeCells ⟨bl,off,none⟩ vs i).run P w=.ok () (lg w bl (.cells (setFrom cs (off+i) vs) elem fr))
 | [],w,bl,off,i,cs,elem,fr,h,_,_,_=>by simp [storeCells,setFrom,arx h]
 | v::vs,w,bl,off,i,cs,elem,fr,h,hle,hone,hfr=>by
   simp only [jK] at hle hfr;have hlt:off+i < cs.size:=by omega
   have hc:w.cell? ⟨bl,off+i,none⟩=some cs[off+i]:=by rw [KE h];simp [hlt]
   have hf:w.frozen? ⟨bl,off+i,none⟩=false:=by
    rw [abU h];have:=hfr (off+i) (by omega) (by omega);simpa using this
   have hv:=hone v (by simp);have hs:(store ⟨bl,off+i,none⟩ v).run P w=.ok () (lg w bl (.cells (cs.setIfInBounds (off+i) v) elem fr)):=by
    rw [<- setCell_eq h];cases v<;>simp [oD] at hv<;>simp [store,Sem.run,hc,hf]
   simp only [storeCells,aO,oO,hs,aN];rw [Yk vs _ bl off (i+1) (cs.setIfInBounds (off+i) v) elem fr (zI h) (by simp;omega) (λx hx=>hone x (by simp [hx])) (λk h1 h2=>hfr k (by omega) (by omega))];rw [arz];rfl
def Env.put (η:Env) (id:Nat) (q:Place):Env:=⟨λk=>if k=id then some q else η k,η.ro,η.gh⟩
theorem Env.FY {P:Program} {η:Env} {σ:au} {w:World} (h:SR P η σ w) (q:Place):η.le (η.put σ.next q):=by
 refine ⟨λid p hp=>?_,λ_ _ h=>h,λ_ h=>h⟩;have:=h.dom id p hp;simp only [Env.put];rw [ah (by omega)];exact hp
theorem uJ {w:World} {k:Nat} {o:Obj} (h:w.heap[k]? = some o):k < w.heap.size:=(nN.1 h).1
theorem OR.lt {P:Program} {η:Env} {q:Place} {w:World} {o:aY} (h:OR P η q w o):q.bl < w.heap.size:=by
 cases o with
 | cells c et rw opn=>obtain ⟨cs,elem,fr,h1,_⟩:=h;exact uJ h1
 | iter s pos=>exact uJ h.1
 | map es=>obtain ⟨ms,clock,h1,_⟩:=h;exact uJ h1
 | iterM m=>cases m with
   | none=>obtain ⟨_,_,_,h1⟩:=h;exact uJ h1
   | some m=>obtain ⟨_,_,_,_,_,h1⟩:=h;exact uJ h1
 | vec n et f=>obtain ⟨_,_,_,_,_,_,h1,_⟩:=h;exact uJ h1
 | smap n kk sz=>obtain ⟨_,_,_,_,h1,_⟩:=h;exact uJ h1
 | pmap es=>obtain ⟨_,_,_,_,h1,_⟩:=h;exact uJ h1
theorem Env.aeP {P:Program} {η:Env} {σ:au} {w:World} (h:SR P η σ w) (q:Place) {n:Nat} (hn:σ.next < n):∀id,(η.put σ.next q).gh id=true->(η.put σ.next q) id=none/\id < n:=by
 intro id hid;obtain ⟨h1,h2⟩:=h.jq id hid;refine ⟨?_,by omega⟩;simp only [Env.put];rw [ah (by omega)];exact h1
theorem St.alloc {P:Program} {η:Env} {σ:au} {w:World} (h:SR P η σ w) (o:aY) (oc:Obj) (q:Place) (hq:q.bl=w.heap.size)
 (ho:OR P (η.put σ.next q) q { w with heap:=w.heap.push oc } o):St P η σ w (η.put σ.next q) (σ.new o) { w with heap:=w.heap.push oc }:=by
 have hle:=Env.FY h q;have hat:∀k,k < w.heap.size->(w.heap.push oc)[k]? = w.heap[k]?:=λk hk=>by rw [Ny,ah (by omega)]
 have acz:∀b o,η.ro b=some o->b < w.heap.size:=λb o hb=>uJ (h.iP b o hb);refine ⟨hle,⟨?_, ?_, ?_,Env.aeP h q (JQ _), ?_,λb o hb=>?_,λid o1 p a1 a2 a3=>?_,λp hp=>(h.tabs p hp).mono hle⟩,by simp,λbl hbl _=>hat bl hbl, ?_,rfl,rfl,rfl,rfl,Nat.le_succ _, ?_,λ_ h=>.inl h⟩;rotate_right
 ·rintro id (⟨p,hp⟩ | hg)
  ·simp only [Env.put] at hp
   split at hp
   ·next e=>subst e;exact .inr ⟨Nat.le_refl _,JQ _⟩
   ·exact .inl (.inl ⟨p,hp⟩)
  ·exact .inl (.inr hg)
 ·intro g hg;obtain ⟨sz,es,h1⟩:=h.kY g hg;exact ⟨sz,es,hle.pl _ _ h1⟩
 ·intro id p hp
  simp only [Env.put] at hp;show id < σ.next+1
  split at hp
  ·omega
  ·have:=h.dom id p hp;omega
 ·intro id o' ho'
  rw [au.oQ] at ho';split at ho'
  ·next e=>cases ho';subst e;exact .inl ⟨q,by simp [Env.put],ho⟩
  ·exact ((h.live id o' ho').heap (w:=w) (λp _ hr=>hat _ hr.lt)).mono hle
 ·intro id o1 id' o2 p p' h1 h2 h3 h4 h5 h6
  rw [au.oQ] at h1 h3;simp only [Env.put] at h5 h6;split at h1<;>split at h3
  ·omega
  ·next e e'=>
   rw [aj e] at h5;rw [ah e'] at h6;cases h5;have:=(h.at h3 h6).lt;omega
  ·next e e'=>
   rw [ah e] at h5;rw [aj e'] at h6;cases h6;have:=(h.at h1 h5).lt;omega
  ·next e e'=>
   rw [ah e] at h5;rw [ah e'] at h6;exact h.sep id o1 id' o2 p p' h1 h2 h3 h4 h5 h6
 ·exact (hat b (acz b o hb)).trans (h.iP b o hb)
 ·rw [au.oQ] at a1
  simp only [Env.put] at a3 ⊢;split at a1
  ·next e=>
   rw [aj e] at a3;cases a3;cases hro:η.ro q.bl with
   | none=>rfl
   | some o2=>have:=acz _ _ hro;omega
  ·next e=>rw [ah e] at a3;exact h.ku id o1 p a1 a2 a3
 ·intro id o1 p h1 h2 h3 h4
  rw [au.oQ] at h1;simp only [Env.put] at h4;split at h1
  ·next e=>rw [aj e] at h4;cases h4;left;omega
  ·next e=>rw [ah e] at h4;exact .inr ⟨id,o1,p,h1,h2,h3,h4,rfl⟩
theorem St.write {P:Program} {η:Env} {σ:au} {w w':World} (h:SR P η σ w) {id:Nat} {o o':aY} {q:Place} (hg:σ.get id=some o) (ho:o.own=true) (hl:σ.lock<=id)
 (hq:η id=some q) (hsz:w'.heap.size=w.heap.size) (hk:∀k,k≠q.bl->w'.heap[k]? = w.heap[k]?) (h1:w'.os=w.os) (h2:w'.tape=w.tape) (h3:w'.output=w.output)
 (hr:OR P η q w' o'):St P η σ w η (σ.put id o') w':=by
 have hro:=h.ku id o q hg ho hq;refine ⟨Env.le.refl _,⟨h.kY,h.dom, ?_,h.jq, ?_,λb o2 hb=>?_,λid2 o2 p a1 a2 a3=>?_,h.tabs⟩,by omega, ?_, ?_,h1,h2,h3,rfl,dH _,λ_ h=>.inl h,λ_ h=>.inl h⟩
 ·intro id' o2 h4
  rw [au.get_put] at h4;split at h4
  ·next e=>cases h4;subst e;exact .inl ⟨q,hq,hr⟩
  ·next e=>exact (h.live id' o2 h4).heap (w:=w) λp hp _=>hk _ (h.sep id o id' o2 q p hg ho h4 (λe'=>e e'.symm) hq hp).symm
 ·intro id1 o1 id2 o2 p p' a b c d e f
  rw [au.get_put] at a c;split at a<;>split at c
  ·omega
  ·next e1 e2=>subst e1;exact h.sep id1 o id2 o2 p p' hg ho c d e f
  ·next e1 e2=>subst e2;exact h.sep id1 o1 id2 o p p' a b hg d e f
  ·exact h.sep id1 o1 id2 o2 p p' a b c d e f
 ·rw [hk b (λe=>by rw [e] at hb;rw [hro] at hb;cases hb)];exact h.iP b o2 hb
 ·rw [au.get_put] at a1
  split at a1
  ·next e=>subst e;rw [hq] at a3;cases a3;exact hro
  ·exact h.ku id2 o2 p a1 a2 a3
 ·intro bl hbl hno
  exact hk bl (hno id o q hg ho hl hq).symm
 ·intro id1 o1 p a b c d
  rw [au.get_put] at a;split at a
  ·next e=>subst e;exact .inr ⟨id1,o,p,hg,ho,hl,d,rfl⟩
  ·exact .inr ⟨id1,o1,p,a,b,c,d,rfl⟩
theorem St.again {P:Program} {η:Env} {σ:au} {w w':World} (h:SR P η σ w) {id:Nat} {o o':aY} {q q':Place} (hg:σ.get id=some o) (ho:o.own=true) (hl:σ.lock<=id)
 (hq:η id=some q) (hq':q'.bl=q.bl) (hsz:w'.heap.size=w.heap.size) (hk:∀k,k≠q.bl->w'.heap[k]? = w.heap[k]?) (h1:w'.os=w.os) (h2:w'.tape=w.tape) (h3:w'.output=w.output)
 (hr:OR P (η.put σ.next q') q' w' o'):St P η σ w (η.put σ.next q') ((σ.kill id).new o') w':=by
 have hle:=Env.FY h q';have hid:id < σ.next:=h.dom id q hq;have get:∀k,((σ.kill id).new o').get k=if k=σ.next then some o' else if k=id then none else σ.get k:=λk=>by
  rw [au.oQ,au.wX];rfl
 have hro:=h.ku id o q hg ho hq;refine ⟨hle,⟨?_, ?_, ?_,Env.aeP h q' (JQ _), ?_,λb o2 hb=>?_,λid2 o2 p a1 a2 a3=>?_,λp hp=>(h.tabs p hp).mono hle⟩,by omega, ?_, ?_,h1,h2,h3,rfl,Nat.le_succ _, ?_,λ_ h=>.inl h⟩;rotate_right
 ·rintro id (⟨p,hp⟩ | hg)
  ·simp only [Env.put] at hp
   split at hp
   ·next e=>subst e;exact .inr ⟨Nat.le_refl _,JQ _⟩
   ·exact .inl (.inl ⟨p,hp⟩)
  ·exact .inl (.inr hg)
 ·intro g hg;obtain ⟨sz,es,h1⟩:=h.kY g hg;exact ⟨sz,es,hle.pl _ _ h1⟩
 ·intro k p hp
  simp only [Env.put] at hp;show k < σ.next+1
  split at hp
  ·omega
  ·have:=h.dom k p hp;omega
 ·intro k o2 h4
  rw [get] at h4;split at h4
  ·next e=>cases h4;subst e;exact .inl ⟨q',by simp [Env.put],hr⟩
  ·split at h4
   ·cases h4
   ·next e e2=>exact ((h.live k o2 h4).heap (w:=w) λp hp _=>hk _ (h.sep id o k o2 q p hg ho h4 (λe'=>e2 e'.symm) hq hp).symm).mono hle
 ·intro id1 o1 id2 o2 p p' a b c d e f
  rw [get] at a c;simp only [Env.put] at e f;split at a<;>split at c
  ·omega
  ·next e1 e2=>
   split at c
   ·cases c
   ·next e3=>
    rw [aj e1] at e;rw [ah e2] at f;cases e;rw [hq'];exact h.sep id o id2 o2 q p' hg ho c (λe'=>e3 e'.symm) hq f
  ·next e1 e2=>
   split at a
   ·cases a
   ·next e3=>
    rw [ah e1] at e;rw [aj e2] at f;cases f;rw [hq'];exact h.sep id1 o1 id o p q a b hg e3 e hq
  ·next e1 e2=>
   split at a
   ·cases a
   ·split at c
    ·cases c
    ·rw [ah e1] at e;rw [ah e2] at f
     exact h.sep id1 o1 id2 o2 p p' a b c d e f
 ·rw [hk b (λe=>by rw [e] at hb;have hb':η.ro q.bl=some o2:=hb;rw [hro] at hb';cases hb')];exact h.iP b o2 hb
 ·rw [get] at a1
  simp only [Env.put] at a3 ⊢;split at a1
  ·next e=>rw [aj e] at a3;cases a3;rw [hq'];exact hro
  ·next e=>
   rw [ah e] at a3;split at a1
   ·cases a1
   ·exact h.ku id2 o2 p a1 a2 a3
 ·intro bl hbl hno
  exact hk bl (hno id o q hg ho hl hq).symm
 ·intro id1 o1 p a b c d
  rw [get] at a;simp only [Env.put] at d;split at a
  ·next e=>rw [aj e] at d;cases d;exact .inr ⟨id,o,q,hg,ho,hl,hq,hq'.symm⟩
  ·next e=>
   rw [ah e] at d;split at a
   ·cases a
   ·exact .inr ⟨id1,o1,p,a,b,c,d,rfl⟩
theorem SR.sub {P:Program} {η:Env} {σ τ:au} {w:World} (h:SR P η σ w) (hs:∀id o,τ.get id=some o->σ.get id=some o) (hn:σ.next<=τ.next):SR P η τ w:=
 ⟨h.kY,λid q hq=>vI (h.dom id q hq) hn,λid o ho=>h.live id o (hs id o ho),λid hid=>⟨(h.jq id hid).1,vI (h.jq id hid).2 hn⟩,
  λid o id' o' q q' a b c d e f=>h.sep id o id' o' q q' (hs _ _ a) b (hs _ _ c) d e f,h.iP,λid o q a b c=>h.ku id o q (hs _ _ a) b c,h.tabs⟩
theorem St.sub {P:Program} {η η':Env} {σ σ' τ:au} {w w':World} (h:St P η σ w η' σ' w') (hs:∀id o,τ.get id=some o->σ'.get id=some o) (hn:σ'.next<=τ.next) (hl:τ.lock=σ'.lock):St P η σ w η' τ w':=
 { h with rel:=h.rel.sub hs hn,own:=λid o q a b c d=>h.own id o q (hs _ _ a) b c d,lock:=hl.trans h.lock,next:=jw h.next hn,new:=λid hq=>(h.new id hq).imp (λx=>x) λ⟨a,b⟩=>⟨a,vI b hn⟩ }
end
end Go.aJ
