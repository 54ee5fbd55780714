/- Ground values, and the nodes by which a symbolic run names them. -/
import Derived.Calls
import Derived.Below
import Derived.Orders
import Derived.LoopN
import Derived.KernelRfl
import Derived.Laws.Strings
import Derived.WalkKit
set_option linter.all false
namespace Go.aP
abbrev XS:=List (Nat×FuncId)
abbrev XN:=Option Addr
abbrev Ys:=Option Bool
abbrev WF:=List (Nat×Nat)
abbrev WD:=Option Value
abbrev Wt:=Array TypeId
abbrev Wk:=List (Nat×Bool)
abbrev Wg:=Option IntKind
abbrev W7:=List (Option FuncId)
abbrev W6:=Array Oper
abbrev W2:=Option Nat
abbrev W8:=List (Nat×W2)
abbrev QR:=Array Value
abbrev Qf:=Nat->Option Obj
abbrev Q6:=List Value
abbrev Q2:=List Nat
abbrev Xs:=List (Q2×Nat)
abbrev Q0:=List UInt8
abbrev Wa:=List Q0
def ah{p:Prop}(h:p:=by omega):p:=h
def aA{p:Prop}(h:p:=by simp):p:=h
def aU{p:Prop}(h:p:=by decide):p:=h
noncomputable section
abbrev aj:=@if_neg
abbrev au:=@if_pos
abbrev aO:=@Bool.and_eq_true
abbrev aX:=@Result.andThen_ok
abbrev aY:=@Sem.run_bind
abbrev aZ:=@List.nil_append
abbrev bD:=@Option.some.injEq
abbrev bG:=@List.cons_append
abbrev bH:=@List.mem_cons
abbrev bI:=@Option.map_eq_some_iff
abbrev bQ:=@Sem.run_pure
abbrev bV:=@Nat.eq_of_beq_eq_true
abbrev cO:=@List.getElem?_eq_getElem
abbrev dP:=@Nat.le_refl
abbrev dY:=@List.drop_zero
abbrev eP:=@List.length_append
abbrev fZ:=@List.length_drop
abbrev gy:=@List.getElem?_eq_some_iff
abbrev gU:=@List.length_map
abbrev iE:=@List.length_cons
abbrev iG:=@Int.le_refl
abbrev iI:=@Bool.false_eq_true
abbrev iO:=@Option.map_some
abbrev iY:=@List.drop_eq_getElem_cons
abbrev iZ:=@List.getElem_mem
abbrev jc:=@List.map_cons
abbrev jA:=@List.getElem?_map
abbrev jB:=@List.pairwise_cons
abbrev jJ:=@List.map_nil
abbrev jQ:=@List.mem_append
abbrev jX:=@List.mem_singleton
abbrev jY:=@Nat.blt_eq
abbrev kE:=@Nat.add_assoc
abbrev kP:=@List.eq_nil_of_length_eq_zero
abbrev kY:=@List.flatMap_cons
abbrev kZ:=@Nat.le_trans
abbrev lQ:=@List.length_nil
abbrev mD:=@List.getElem?_cons_zero
abbrev mF:=@List.take_of_length_le
abbrev mQ:=@List.length_take
abbrev mW:=@Nat.zero_add
abbrev oh:=@List.getElem?_take
abbrev oJ:=@List.map_append
abbrev pF:=@List.getElem?_append_left
abbrev pY:=@List.append_nil
abbrev qg:=@Nat.add_zero
abbrev qF:=@Bool.or_eq_true
abbrev qI:=@Prod.mk.injEq
abbrev qZ:=@List.lt_irrefl
abbrev ru:=@Nat.xor_assoc
abbrev rZ:=@List.mem_map
abbrev tH:=@Array.getElem?_eq_some_iff
abbrev tJ:=@Int.natCast_zero
abbrev tK:=@List.drop_drop
abbrev tN:=@List.mem_of_getElem?
abbrev tX:=@Option.getD_some
abbrev uH:=@List.all_cons
abbrev uI:=@List.drop_left
abbrev uJ:=@List.getElem?_drop
abbrev uK:=@Nat.add_mul
abbrev uT:=@congrArg
abbrev vG:=@Nat.zero_le
abbrev wo:=@BitVec.toNat_ofInt
abbrev wB:=@Nat.le_of_ble_eq_true
abbrev wC:=@Nat.mul_le_mul_right
abbrev wE:=@Option.getD_none
abbrev xA:=@List.getElem?_cons_succ
abbrev xB:=@List.getElem?_eq_none
abbrev xF:=@Sem.run_ite
abbrev yA:=@Array.getElem?_toList
abbrev yB:=@Bool.not_eq_true'
abbrev yC:=@List.cons.injEq
abbrev yD:=@List.getElem?_append_right
abbrev yE:=@List.mem_of_getLast?
abbrev yH:=@Option.bind_eq_some_iff
abbrev zA:=@Bool.eq_iff_iff
abbrev zF:=@Int.toNat_natCast
abbrev zG:=@List.mem_cons_of_mem
abbrev zI:=@Nat.lt_of_lt_of_le
abbrev zJ:=@Nat.lt_or_ge
abbrev Aj:=@List.getD_eq_getElem?_getD
abbrev Bh:=@Array.getD_eq_getD_getElem?
abbrev Bj:=@Bool.false_or
abbrev Bo:=@List.lt_trans
abbrev Bq:=@List.mem_range
abbrev Bv:=@List.take_length
abbrev Bz:=@List.take_succ_cons
abbrev BA:=@Option.bind_some
abbrev CX:=@List.mem_filter
abbrev CY:=@List.not_lt
abbrev C9:=@Nat.sub_self
abbrev Dx:=@decide_eq_false
abbrev DW:=@of_decide_eq_true
abbrev Eo:=@Array.getElem?_eq_getElem
abbrev Ep:=@Array.getElem?_setIfInBounds
abbrev Et:=@List.take_add
abbrev Eu:=@Nat.lt_succ_self
abbrev EN:=@decide_eq_true
abbrev Gv:=@Bool.true_and
abbrev Gx:=@Int.fdiv_eq_ediv_of_nonneg
abbrev Gy:=@Int.natCast_add
abbrev Gz:=@List.getElem?_toArray
abbrev GH:=@List.length_singleton
abbrev Jd:=@Array.getElem?_push
abbrev Jf:=@Int.toNat_of_nonneg
abbrev Jg:=@List.drop_eq_nil_of_le
abbrev Jh:=@List.ext_getElem?
abbrev Ji:=@List.length_set
abbrev Jj:=@List.mem_nil_iff
abbrev Jk:=@List.take_append_drop
abbrev Jm:=@Nat.mul_comm
abbrev Jo:=@Nat.one_mul
abbrev Jp:=@Nat.sub_zero
abbrev Jq:=@Option.some.inj
abbrev Jr:=@Prod.ext
abbrev MB:=@Array.getElem?_modify
abbrev MC:=@Array.length_toList
abbrev MF:=@Bool.or_false
abbrev ML:=@List.drop_take
abbrev MN:=@List.length_pos_iff
abbrev MO:=@List.mem_of_mem_drop
abbrev MQ:=@List.mem_of_mem_take
abbrev MR:=@List.singleton_append
abbrev MS:=@Nat.add_comm
abbrev MV:=@Nat.le_of_eq
abbrev MW:=@Nat.min_eq_left
abbrev MX:=@Nat.pow_succ
abbrev MZ:=@Option.isNone_some
abbrev Na:=@Prod.exists
abbrev PO:=@Array.ext'
abbrev PV:=@Int.le_trans
abbrev PW:=@List.getElem?_of_mem
abbrev PX:=@List.length_eq_zero_iff
abbrev PY:=@List.replicate_succ
abbrev P5:=@Nat.mod_eq_of_lt
abbrev P6:=@Nat.mul_pos
abbrev Uf:=@Array.ext_getElem?
abbrev Ug:=@Bool.and_true
abbrev Uh:=@Classical.em
abbrev Uk:=@List.filter_cons
abbrev Ul:=@List.le_antisymm
abbrev Um:=@List.mem_cons_self
abbrev Un:=@List.pairwise_iff_getElem
abbrev Uo:=@List.take_add_one
abbrev Ur:=@List.take_append_of_le_length
abbrev Us:=@List.take_left
abbrev Ut:=@List.take_zero
abbrev Uu:=@Nat.add_sub_cancel'
abbrev Uw:=@Nat.eq_zero_or_pos
abbrev Ux:=@Nat.mul_le_mul_left
abbrev Uy:=@Nat.pow_le_pow_right
abbrev Uz:=@Nat.testBit_or
abbrev Y5:=@Array.getElem?_append_left
abbrev Y6:=@Array.mapM_eq_mapM_toList
abbrev Y7:=@BitVec.toNat_and
abbrev Y8:=@Bool.false_and
abbrev Y9:=@Bool.not_eq_false
abbrev Za:=@Bool.not_true
abbrev Zb:=@List.drop_append_of_le_length
abbrev Zc:=@List.drop_succ_cons
abbrev Zd:=@List.findIdx?_cons
abbrev Ze:=@List.head?_cons
abbrev Zf:=@List.length_eq_one_iff
abbrev Zg:=@List.length_filter_le
abbrev Zh:=@List.map_set
abbrev Zi:=@List.mem_append_left
abbrev Zj:=@List.mem_iff_getElem?
abbrev Zl:=@Nat.add_sub_cancel_left
abbrev Zm:=@Nat.mul_div_cancel
abbrev Zn:=@Option.isSome_none
abbrev Zo:=@Option.isSome_some
abbrev Zp:=@Sem.run_map
abbrev Zt:=@UInt8.toNat_inj
abbrev aeB:=@Array.eq_empty_of_size_eq_zero
abbrev aeC:=@Array.map_empty
abbrev aeD:=@Array.size_range
abbrev aeE:=@BitVec.toNat_not
abbrev aeF:=@BitVec.toNat_or
abbrev aeG:=@BitVec.xor_allOnes
abbrev aeP:=@Int.lt_or_le
abbrev aeQ:=@Int.zero_add
abbrev aeR:=@List.Perm.refl
abbrev aeS:=@List.all_append
abbrev aeT:=@List.all_nil
abbrev aeU:=@List.any_cons
abbrev aeV:=@List.any_eq_false
abbrev aeW:=@List.cons_lt_cons_iff
abbrev aeX:=@List.contains_iff_mem
abbrev aeY:=@List.drop_append
abbrev aeZ:=@List.drop_sublist
abbrev ae0:=@List.filter_append
abbrev ae1:=@List.filter_sublist
abbrev ae2:=@List.flatMap_append
abbrev ae3:=@List.getElem?_range
abbrev ae4:=@List.getElem?_set
abbrev ae5:=@List.mapM_cons
abbrev ae6:=@List.map_take
abbrev ae7:=@List.mem_append_right
abbrev ae8:=@List.mem_flatMap
abbrev ae9:=@List.mem_or_eq_of_mem_set
abbrev afa:=@List.mem_replicate
abbrev afb:=@List.pairwise_append
abbrev afc:=@List.take_take
abbrev afd:=@Nat.and_two_pow_sub_one_eq_mod
abbrev afe:=@Nat.ble_eq_true_of_le
abbrev aff:=@Nat.mod_two_eq_zero_or_one
abbrev afg:=@Nat.mul_assoc
abbrev afi:=@Option.map_eq_none_iff
abbrev afj:=@Option.map_none
abbrev afk:=@Option.toList_some
abbrev afn:=@UInt8.toNat_ofNat'
abbrev afq:=@World.cell?_of_block
abbrev afr:=@World.ownsRow_made
abbrev anH:=@Classical.choose_spec
abbrev anI:=@List.concat_eq_append
abbrev anJ:=@List.eq_nil_or_concat
abbrev anK:=@List.filter_cons_of_neg
abbrev anL:=@List.filter_cons_of_pos
abbrev anM:=@List.filter_eq_nil_iff
abbrev anN:=@List.mem_zipIdx_iff_getElem?
abbrev anO:=@List.perm_append_comm
abbrev anQ:=@Nat.le_mul_of_pos_right
abbrev anR:=@Nat.two_pow_add_eq_or_of_lt
abbrev anS:=@Option.isSome_iff_exists
abbrev anT:=@Option.ne_none_iff_exists'
inductive GV where
 |b (x:Bool)
 |i (k:IntKind) (n:Int)
 |s (x:Q0)
 |l (xs:List GV)
 |g (cs:List GV)
 deriving Inhabited
abbrev Wc:=Nat->Option GV
abbrev W4:=Option GV
abbrev Q1:=List GV
abbrev Wr:=Option Q1
def GV.cells:GV->List GV
 |.g cs=>cs
 |v=>[v]
def GV.scalar:GV->Bool
 |.g _=>false
 |_=>true
def GV.gV(size:Nat)(g:GV):Bool:=Nat.beq g.cells.length size&&g.cells.all GV.scalar
def dA(c:BinOp)(k:IntKind)(a b:Int):W4:=
 match c with
 |.add=>some (.i k (k.wrap (a+b)))
 |.sub=>some (.i k (k.wrap (a-b)))
 |.mul=>some (.i k (k.wrap (a*b)))
 |.quo=>if b=0 then none else some (.i k (k.wrap (a.tdiv b)))
 |.rem=>if b=0 then none else some (.i k (a.tmod b))
 |.and=>some (.i k (k.wrap (BitVec.ofInt k.bits a &&& BitVec.ofInt k.bits b).toNat))
 |.or=>some (.i k (k.wrap (BitVec.ofInt k.bits a |||BitVec.ofInt k.bits b).toNat))
 |.xor=>some (.i k (k.wrap (BitVec.ofInt k.bits a ^^^ BitVec.ofInt k.bits b).toNat))
 |.andNot=>some (.i k (k.wrap (BitVec.ofInt k.bits a &&& ~~~ BitVec.ofInt k.bits b).toNat))
 |.eql=>some (.b (a==b))
 |.neq=>some (.b (a !=b))
 |.lss=>some (.b (decide (a<b)))
 |.leq=>some (.b (decide (a<=b)))
 |.gtr=>some (.b (decide (a>b)))
 |.geq=>some (.b (decide (a>=b)))
 |_=>none
def kX(c:BinOp)(k:IntKind)(a b:Int):W4:=
 if b<0 then none else
 match c with
 |.shl=>some (.i k (k.wrap (a*2^(min b.toNat k.bits))))
 |.shr=>some (.i k (a.fdiv (2^(min b.toNat k.bits))))
 |_=>none
def zo(c:BinOp)(a b:Q0):W4:=
 match c with
 |.add=>if((a.length+b.length:Nat):Int)<=IntKind.i64.max then some (.s (a++b))else none
 |.eql=>some (.b (a==b))
 |.neq=>some (.b (!(a==b)))
 |.lss=>some (.b (Op.bytesLess a b))
 |.leq=>some (.b (Op.bytesLess a b ||a==b))
 |.gtr=>some (.b (!(Op.bytesLess a b ||a==b)))
 |.geq=>some (.b (!(Op.bytesLess a b)))
 |_=>none
def pU:Q2->List GV->List GV->Option Bool
 |[],[],[]=>some true
 |0::c,.i k a::l,.i d b::m=>if k=d then(pU c l m).map ((a==b)&&·)else none
 |1::c,.s a::l,.s b::m=>(pU c l m).map ((a==b)&&·)
 |2::c,.b a::l,.b b::m=>(pU c l m).map ((a==b)&&·)
 |_,_,_=>none
def jg(op:BinOp):GV->GV->Option GV
 |.i k a,.i c b=>match op with
  |.shl=>kX .shl k a b
  |.shr=>kX .shr k a b
  |op=>if k=c then dA op k a b else none
 |.s a,.s b=>zo op a b
 |_,_=>none
def U8(c:BinOp):GV->GV->Option GV
 |.b a,.b b=>match c with
  |.eql=>some (.b (a==b))
  |.neq=>some (.b (!(a==b)))
  |_=>none
 |_,_=>none
def Nu(d:BinOp)(c:Q2):GV->GV->Option GV
 |.g a,.g b=>match d with
  |.eql=>(pU c a b).map .b
  |.neq=>(pU c a b).map λr=>.b (!r)
  |_=>none
 |_,_=>none
def YQ(b:UnOp):GV->Option GV
 |.b a=>match b with
  |.not=>some (.b (!a))
  |_=>none
 |.i k n=>match b with
  |.neg=>some (.i k (k.wrap (0-n)))
  |.xor=>dA .xor k (if k.signed then -1 else k.max) n
  |_=>none
 |_=>none
def pO:Q1->Option Q0
 |[]=>some []
 |.i .u8 n::rest=>if 0<=n/\n<256 then(pO rest).map (UInt8.ofNat n.toNat::·)else none
 |_::_=>none
def dJ(s:Q0):Q1:=s.map λb=>.i .u8 b.toNat
inductive Nd where
 |arg
 |ci (k:IntKind) (n:Int)
 |cb (x:Bool)
 |cs (x:Q0)
 |bin (op:BinOp) (a b:Nat)
 |G6 (op:BinOp) (a b:Nat)
 |G7 (op:BinOp) (ks:Q2) (a b:Nat)
 |un (op:UnOp) (a:Nat)
 |mm (big:Bool) (a b:Nat)
 |conv (k:IntKind) (a:Nat)
 |len (a:Nat)
 |slen (a:Nat)
 |IX (a i:Nat)
 |IY (a lo hi:Nat)
 |FB (size a lo hi:Nat)
 |idx (a i:Nat)
 |at(size a i:Nat)
 |cell (off a:Nat)
 |mk (l:Q2)
 |ml (l:Q2)
 |app (size bytes a b:Nat)
 |upd (size off a i:Nat) (vs:Q2)
 |rep (size bytes z l c:Nat)
 |bytes (a:Nat)
 |str (a:Nat)
 |IW (a:Nat)
 |same (a b:Nat)
 |Cb (a j:Nat)
 |call (f:Nat) (l:Q2) (j:Nat)
 |Iu (z m k:Nat)
 |Iw (m k:Nat)
 |DT (m k v:Nat)
 deriving Inhabited
def rJ:GV->GV->Bool
 |.i k a,.i c b=>Nat.beq (IntKind.casesOn k 0 1 2 3 4 5 6 7) (IntKind.casesOn c 0 1 2 3 4 5 6 7)&&a==b
 |.s a,.s b=>a==b
 |_,_=>false
def iC(k:GV):Q1->Option GV
 |[]=>none
 |.g [a,v]::l=>if rJ k a=true then some v else iC k l
 |_::l=>iC k l
def kV(k v:GV):Q1->List GV
 |[]=>[.g [k,v]]
 |.g [a,u]::l=>if rJ k a=true then .g [k,v]::l else .g [a,u]::kV k v l
 |x::l=>x::kV k v l
def valsOf(val:Wc):Q2->Option Q1
 |[]=>some []
 |n::l=>match val n,valsOf val l with
  |some g,some r=>some (g::r)
  |_,_=>none
def GV.int:GV->Option Int
 |.i _ n=>some n
 |_=>none
def putCells(cs:Q1)(off:Nat)(vs:Q1):Wr:=
 if off+vs.length<=cs.length then some (cs.take off++vs++cs.drop (off+vs.length))else none
def GV.put(x:GV)(off:Nat)(vs:Q1):W4:=
 match x with
 |.g a=>(putCells a off vs).map .g
 |_=>match off,vs with
  |0,[v]=>some v
  |_,_=>none
def Nd.den(I:Nat->List GV->Option Q1)(val:Wc):Nd->Option GV
 |.arg=>none
 |.ci k n=>some (.i k n)
 |.cb x=>some (.b x)
 |.cs x=>some (.s x)
 |.bin e a b=>match val a,val b with
  |some x,some y=>jg e x y
  |_,_=>none
 |.G6 e a b=>match val a,val b with
  |some x,some y=>U8 e x y
  |_,_=>none
 |.G7 e q a b=>match val a,val b with
  |some x,some y=>Nu e q x y
  |_,_=>none
 |.un e a=>match val a with
  |some x=>YQ e x
  |none=>none
 |.mm p a b=>match val a,val b with
  |some (.i k x),some (.i s y)=>if k=s then some (.i k (if p then(if x<y then y else x)else(if y<x then y else x)))else none
  |_,_=>none
 |.conv k a=>match val a with
  |some (.i _ n)=>some (.i k (k.wrap n))
  |_=>none
 |.len a=>match val a with
  |some (.l xs)=>some (.i .i64 xs.length)
  |_=>none
 |.slen a=>match val a with
  |some (.s x)=>some (.i .i64 x.length)
  |_=>none
 |.IX a i=>match val a,val i with
  |some (.s x),some (.i _ k)=>if 0<=k then match x[k.toNat]? with
   |some c=>some (.i .u8 c.toNat)
   |none=>none
   else none
  |_,_=>none
 |.IY a lo hi=>match val a,val lo,val hi with
  |some (.s x),some (.i _ l),some (.i _ h)=>if 0<=l/\l<=h/\h<=x.length then some (.s ((x.take h.toNat).drop l.toNat))else none
  |_,_,_=>none
 |.FB size a lo hi=>match val a,val lo,val hi with
  |some (.l xs),some (.i _ l),some (.i _ h)=>if 0<=l/\l<=h/\h<=xs.length/\(xs.all λx=>Nat.beq x.cells.length size)=true then some (.l ((xs.take h.toNat).drop l.toNat))else none
  |_,_,_=>none
 |.idx a i=>match val a,val i with
  |some (.l xs),some (.i _ k)=>if 0<=k/\k<xs.length then some (.i .i64 k)else none
  |_,_=>none
 |.at size a i=>match val a,val i with
  |some (.l xs),some (.i _ k)=>if 0<=k then match xs[k.toNat]? with
   |some x=>if x.cells.length=size then some x else none
   |none=>none
   else none
  |_,_=>none
 |.cell off a=>match val a with
  |some g=>match g.cells[off]? with
   |some c=>if c.scalar then some c else none
   |none=>none
  |none=>none
 |.mk l=>match valsOf val l with
  |some gs=>if gs.all GV.scalar then some (.g gs)else none
  |none=>none
 |.ml l=>(valsOf val l).map .l
 |.app size t a b=>match val a,val b with
  |some (.l xs),some (.l o)=>if o.all (GV.gV size)=true/\2*(xs.length+o.length)*t<=2^48/\xs.length+o.length<=2^48 then some (.l (xs++o))else none
  |_,_=>none
 |.upd size off a i vs=>match val a,val i,valsOf val vs with
  |some (.l xs),some (.i _ k),some gs=>
   if 0<=k/\gs.all GV.scalar=true then match xs[k.toNat]? with
   |some x=>if x.cells.length=size then(x.put off gs).map λy=>.l (xs.set k.toNat y)else none
   |none=>none
   else none
  |_,_,_=>none
 |.rep size w z l c=>match val z,val l,val c with
  |some x,some (.i _ n),some (.i _ m)=>if 0<=n/\n<=m/\w*m<=2^48/\m<=2^60/\x.gV size=true then some (.l (List.replicate n.toNat x))else none
  |_,_,_=>none
 |.bytes a=>match val a with
  |some (.s x)=>some (.l (dJ x))
  |_=>none
 |.str a=>match val a with
  |some (.l xs)=>if xs.length<=2^48 then(pO xs).map .s else none
  |_=>none
 |.IW a=>match val a with
  |some (.s x)=>some (.s x)
  |_=>none
 |.same a b=>match val a,val b with
  |some (.l xs),some (.l o)=>if o.length=xs.length then some (.l o)else none
  |_,_=>none
 |.Cb a j=>match val a with
  |some (.i _ m)=>some (.b (decide (m=(j:Int))))
  |_=>none
 |.call f l j=>match valsOf val l with
  |some gs=>match I f gs with
   |some r=>r[j]?
   |none=>none
  |none=>none
 |.Iu z m k=>match val z,val m,val k with
  |some d,some (.l xs),some g=>some ((iC g xs).getD d)
  |_,_,_=>none
 |.Iw m k=>match val m,val k with
  |some (.l xs),some g=>some (.b (iC g xs).isSome)
  |_,_=>none
 |.DT m k v=>match val m,val k,val v with
  |some (.l xs),some g,some u=>some (.l (kV g u xs))
  |_,_,_=>none
def xZ(o:BinOp):Nat:=BinOp.casesOn o 0 1 2 3 4 5 6 7 8 9 10 11 12 13 14 15 16
def azt{o o':BinOp}(h:Nat.beq (xZ o) (xZ o')=true):o=o':=by cases o<;>cases o'<;>first|rfl|(simp[xZ]at h)
def LY(o:UnOp):Nat:=UnOp.casesOn o 0 1 2 3
def aGf{o o':UnOp}(h:Nat.beq (LY o) (LY o')=true):o=o':=by cases o<;>cases o'<;>first|rfl|(simp[LY]at h)
def kc(k:IntKind):Nat:=IntKind.casesOn k 0 1 2 3 4 5 6 7
def WZ{o o':IntKind}(h:Nat.beq (kc o) (kc o')=true):o=o':=by cases o<;>cases o'<;>first|rfl|(simp[kc]at h)
def zX:Q2->List Nat->Bool
 |[],[]=>true
 |a::l,b::m=>Nat.beq a b&&zX l m
 |_,_=>false
def ab3:∀{l m:Q2},zX l m=true->l=m
 |[],[],_=>rfl
 |a::l,b::m,h=>by simp only[zX,aO]at h;rw[bV h.1,ab3 h.2]
 |[],_::_,h=>by simp[zX]at h
 |_::_,[],h=>by simp[zX]at h
def Dp:Q0->List UInt8->Bool
 |[],[]=>true
 |a::l,b::m=>Nat.beq a.toNat b.toNat&&Dp l m
 |_,_=>false
def ZR:∀{l m:Q0},Dp l m=true->l=m
 |[],[],_=>rfl
 |a::l,b::m,h=>by simp only[Dp,aO]at h;rw[Zt.1 (bV h.1),ZR h.2]
 |[],_::_,h=>by simp[Dp]at h
 |_::_,[],h=>by simp[Dp]at h
def Kt(a b:Int):Bool:=match a,b with
 |.ofNat m,.ofNat n=>Nat.beq m n
 |.negSucc m,.negSucc n=>Nat.beq m n
 |_,_=>false
def ai3{a b:Int}(h:Kt a b=true):a=b:=by
 unfold Kt at h;split at h
 ·rw[bV h]
 ·rw[bV h]
 ·cases h
def Nd.eq(x y:Nd):Bool:=
 match x with
 |.arg=>false
 |.ci k n=>match y with|.ci t L=>Nat.beq (kc k) (kc t)&&Kt n L|_=>false
 |.cb b=>match y with|.cb e=>(bif b then e else !e)|_=>false
 |.cs s=>match y with|.cs q=>Dp s q|_=>false
 |.bin u a b=>match y with|.bin p d e=>Nat.beq a d&&Nat.beq b e&&Nat.beq (xZ u) (xZ p)|_=>false
 |.G6 u a b=>match y with|.G6 p d e=>Nat.beq a d&&Nat.beq b e&&Nat.beq (xZ u) (xZ p)|_=>false
 |.G7 u M a b=>match y with|.G7 p D d e=>Nat.beq a d&&Nat.beq b e&&Nat.beq (xZ u) (xZ p)&&zX M D|_=>false
 |.un u a=>match y with|.un p d=>Nat.beq a d&&Nat.beq (LY u) (LY p)|_=>false
 |.mm g a b=>match y with|.mm I d e=>Nat.beq a d&&Nat.beq b e&&(bif g then I else !I)|_=>false
 |.conv k a=>match y with|.conv t d=>Nat.beq a d&&Nat.beq (kc k) (kc t)|_=>false
 |.len a=>match y with|.len d=>Nat.beq a d|_=>false
 |.slen a=>match y with|.slen d=>Nat.beq a d|_=>false
 |.IX a i=>match y with|.IX d w=>Nat.beq a d&&Nat.beq i w|_=>false
 |.IY a l h=>match y with|.IY d r E=>Nat.beq a d&&Nat.beq l r&&Nat.beq h E|_=>false
 |.FB s a l h=>match y with|.FB q d r E=>Nat.beq s q&&Nat.beq a d&&Nat.beq l r&&Nat.beq h E|_=>false
 |.idx a i=>match y with|.idx d w=>Nat.beq a d&&Nat.beq i w|_=>false
 |.at s a i=>match y with|.at q d w=>Nat.beq s q&&Nat.beq a d&&Nat.beq i w|_=>false
 |.cell o a=>match y with|.cell F d=>Nat.beq o F&&Nat.beq a d|_=>false
 |.mk l=>match y with|.mk r=>zX l r|_=>false
 |.ml l=>match y with|.ml r=>zX l r|_=>false
 |.app z s a b=>match y with|.app A q d e=>Nat.beq z A&&Nat.beq s q&&Nat.beq a d&&Nat.beq b e|_=>false
 |.upd s o a i N=>match y with|.upd q F d w G=>Nat.beq s q&&Nat.beq o F&&Nat.beq a d&&Nat.beq i w&&zX N G|_=>false
 |.rep s b z l c=>match y with|.rep q e A r O=>Nat.beq s q&&Nat.beq b e&&Nat.beq z A&&Nat.beq l r&&Nat.beq c O|_=>false
 |.bytes a=>match y with|.bytes d=>Nat.beq a d|_=>false
 |.str a=>match y with|.str d=>Nat.beq a d|_=>false
 |.IW a=>match y with|.IW d=>Nat.beq a d|_=>false
 |.same a b=>match y with|.same d e=>Nat.beq a d&&Nat.beq b e|_=>false
 |.Cb a j=>match y with|.Cb d H=>Nat.beq a d&&Nat.beq j H|_=>false
 |.call f l j=>match y with|.call P r H=>Nat.beq f P&&Nat.beq j H&&zX l r|_=>false
 |.Iu z m k=>match y with|.Iu A B t=>Nat.beq z A&&Nat.beq m B&&Nat.beq k t|_=>false
 |.Iw m k=>match y with|.Iw B t=>Nat.beq m B&&Nat.beq k t|_=>false
 |.DT m k v=>match y with|.DT B t Q=>Nat.beq m B&&Nat.beq k t&&Nat.beq v Q|_=>false
def Xz{a b:Nat}:Nat.beq a b=true↔a=b:=⟨Nat.eq_of_beq_eq_true,λh=>by rw[h];exact Nat.beq_refl b⟩
def ay6{l m:Q2}:zX l m=true↔l=m:=⟨ab3,λh=>by subst h;induction l with|nil=>rfl|cons a l b=>simp[zX,b]⟩
def af6{l m:Q0}:Dp l m=true↔l=m:=⟨ZR,λh=>by subst h;induction l with|nil=>rfl|cons a l b=>simp[Dp,b]⟩
def ai4{a b:Int}:Kt a b=true↔a=b:=⟨ai3,λh=>by subst h;cases a<;>simp[Kt]⟩
def akv{o o':BinOp}:xZ o=xZ o'↔o=o':=⟨λh=>azt (Xz.2 h),λh=>by rw[h]⟩
def aGe{o o':UnOp}:LY o=LY o'↔o=o':=⟨λh=>aGf (Xz.2 h),λh=>by rw[h]⟩
def axp{o o':IntKind}:kc o=kc o'↔o=o':=⟨λh=>WZ (Xz.2 h),λh=>by rw[h]⟩
def U7{a b:Bool}:(bif a then b else !b)=true↔a=b:=by cases a<;>cases b<;>simp
def Nd.eq_of{x y:Nd}(h:x.eq y=true):x=y/\x≠.arg:=by
 cases x<;>simp only[Nd.eq]at h
 case arg=>cases h
 all_goals
  split at h
  ·simp only[aO,Xz,ay6,af6,ai4,akv,aGe,axp,U7]at h;simp_all
  ·cases h
class iM where
 nodes:List Nd
 dec:Wk
 ka:Nat:=0
def QU(x:Nd):List Nd->Nat->Option Nat
 |[],_=>none
 |y::l,k=>bif x.eq y then some k else QU x l (k+1)
def gB[iM](x:Nd):W2:=QU x iM.nodes 0
def QL(n:Nat):Wk->Option Bool
 |[]=>none
 |p::l=>bif Nat.beq n p.1 then some p.2 else QL n l
def aaw[iM](n:Nat):Ys:=QL n iM.dec
def ahL{x:Nd}:∀{l:List Nd}{k n:Nat},QU x l k=some n->k<=n/\l[n-k]? =some x/\x≠.arg
 |[],_,_,h=>by simp[QU]at h
 |y::l,k,n,h=>by
  simp only[QU]at h;cases a:x.eq y with
  |true=>rw[a]at h;simp only[cond_true,bD]at h;subst h;obtain⟨rfl,b⟩:=Nd.eq_of a;exact⟨Nat.le_refl _,aA,b⟩
  |false=>rw[a]at h;simp only[cond_false]at h;obtain⟨d,b,c⟩:=ahL h;refine⟨ah,?_,c⟩;have:n-k=(n-(k+1))+1:=ah;rw[this,xA];exact b
def auM[iM]{x:Nd}{n:Nat}(h:gB x=some n):iM.nodes[n]? =some x/\x≠.arg:=by obtain⟨_,a,b⟩:=ahL h;exact⟨by simpa using a,b⟩
def QM{n:Nat}{b:Bool}:∀{l:Wk},QL n l=some b->(n,b)∈l
 |[],h=>by simp[QL]at h
 |p::l,h=>by
  simp only[QL]at h;cases a:Nat.beq n p.1 with
  |true=>
   rw[a]at h;simp only[cond_true,bD]at h;have:p=(n,b):=by rw[<-h,bV a]
   rw[this];simp
  |false=>rw[a]at h;simp only[cond_false]at h;exact zG _ (QM h)
noncomputable section
inductive AV where
 |b (x:Bool)
 |i (k:IntKind) (n:Int)
 |s (x:Q0)
 |kL
 |p (id off:Nat)
 |iw
 |sl (id off len:Nat) (cap:W2)
 |rQ
 |mp (id:Nat)
 |AU
 |fn (f:FuncId) (first caps:List AV)
 |vS
 |jM (t:TypeId) (v:AV)
 |agg (l:List AV)
 |fK (l:List AV)
 |z (k:IntKind) (lo hi:Int)
 |ro (l:List AV)
 |rp (a:AV) (off:Nat)
 |nd (n:Nat)
 |rx (n off:Nat)
 |sv (id n:Nat)
 |pv (id n off:Nat)
 |pd (id n:Nat)
 deriving Inhabited
abbrev XX:=List (AV×AV)
abbrev Wo:=List (Nat×AV)
abbrev QQ:=Operand->Option AV
abbrev Q4:=Option AV
abbrev Q3:=List AV
abbrev QP:=List (Nat×Q3)
structure Place where
 bl:Nat
 ba:Nat
 sz:Nat
 es:Nat
structure Env where
 pl:Nat->Option Place
 ro:Nat->Option Obj
 gh:Nat->Bool
instance:CoeFun Env (λ_=>Nat->Option Place):=⟨Env.pl⟩
class aJ extends iM where
 tabs:QP
 I:Nat->List GV->Option Q1
 val:Nat->Option GV
 uq:∀(n:Nat) nd,nodes[n]? =some nd->nd≠.arg->∃g,val n=some g/\nd.den I val=some g
 Dw:∀(n:Nat)(b:Bool),(n,b)∈dec->val n=some (.b b)
def eX(xs:Q6):Q6:=xs.flatMap λx=>x.cells.toList
def Ho(cs:QR)(off:Nat)(l:Q6):Prop:=∀(k:Nat) x,l[k]? =some x->cs[off+k]? =some x
mutual
def GR(ro:Qf):GV->Value->Prop
 |.b x,v=>v=.bool x
 |.i k n,v=>v=.int k n
 |.s x,v=>v=.string ⟨⟨x⟩⟩
 |.g cs,v=>∃vs,v=.agg ⟨vs⟩/\aV ro cs vs
 |.l xs,v=>(xs=[]/\∃p,v=.slice p 0 0)\/∃bl off c a sz,v=.slice (some ⟨bl,off,none⟩) xs.length c/\xs.length<=c/\aV ro xs a/\(∀x∈a,x.cells.size=sz)/\
   (xs≠[]->∃cs elem b,ro bl=some (.cells cs elem b)/\off+(eX a).length<=cs.size/\Ho cs off (eX a))
def aV(ro:Qf):Q1->List Value->Prop
 |[],vs=>vs=[]
 |a::l,vs=>∃x xs,vs=x::xs/\GR ro a x/\aV ro l xs
end
variable[aJ]
mutual
def VR(H:Env):AV->Value->Prop
 |.b x,v=>v=.bool x
 |.i k n,v=>v=.int k n
 |.s x,v=>v=.string ⟨⟨x⟩⟩
 |.kL,v=>v=.pointer none
 |.p id off,v=>∃q,H id=some q/\v=.pointer (some ⟨q.bl,q.ba+off,none⟩)
 |.iw,v=>v=.slice none 0 0
 |.sl id off len cap,v=>∃q,H id=some q/\len<=cap.getD ((q.sz-off)/q.es)/\v=.slice (some ⟨q.bl,q.ba+off,none⟩) len (cap.getD ((q.sz-off)/q.es))
 |.rQ,v=>v=.map none
 |.mp id,v=>∃q,H id=some q/\v=.map (some q.bl)
 |.AU,v=>v=.nilFunc
 |.fn f fi b,v=>∃e vs,v=.func (.func f) ⟨e⟩ ⟨vs⟩/\aG H fi e/\aG H b vs
 |.vS,v=>v=.nilIface
 |.jM t a,v=>∃x,v=.iface t x/\VR H a x
 |.agg l,v=>∃vs,v=.agg ⟨vs⟩/\aG H l vs
 |.fK l,v=>∃vs,v=.tuple ⟨vs⟩/\aG H l vs
 |.z k lo hi,v=>∃n:Int,lo<=n/\n<=hi/\v=.int k n
 |.ro l,v=>(l=[]/\∃p,v=.slice p 0 0)\/∃bl off c xs sz,v=.slice (some ⟨bl,off,none⟩) l.length c/\l.length<=c/\aG H l xs/\(∀x∈xs,x.cells.size=sz)/\
   (l≠[]->∃cs elem d,H.ro bl=some (.cells cs elem d)/\off+(eX xs).length<=cs.size/\Ho cs off (eX xs))
 |.rp a off,v=>∃bl base cs elem d x,H.ro bl=some (.cells cs elem d)/\VR H a x/\v=.pointer (some ⟨bl,base+off,none⟩)/\base+x.cells.size<=cs.size/\Ho cs base x.cells.toList
 |.nd n,v=>∃g,aJ.val n=some g/\g.scalar=true/\GR H.ro g v
 |.rx n off,v=>∃g bl base cs elem d x,aJ.val n=some g/\H.ro bl=some (.cells cs elem d)/\GR H.ro g x/\v=.pointer (some ⟨bl,base+off,none⟩)/\base+x.cells.size<=cs.size/\Ho cs base x.cells.toList
 |.sv id n,v=>∃xs,aJ.val n=some (.l xs)/\((∃q,H id=some q/\xs.length<=q.sz/q.es/\v=.slice (some ⟨q.bl,q.ba,none⟩) xs.length (q.sz/q.es))\/(H.gh id=true/\xs=[]/\v=.slice none 0 0))
 |.pv id n off,v=>∃q k i,H id=some q/\aJ.val n=some (.i k i)/\v=.pointer (some ⟨q.bl,q.ba+i.toNat*q.es+off,none⟩)
 |.pd id n,v=>∃xs p,aJ.val n=some (.l xs)/\v=.pointer p/\(xs≠[]->∃q,H id=some q/\p=some ⟨q.bl,q.ba,none⟩)
def aG(H:Env):Q3->List Value->Prop
 |[],vs=>vs=[]
 |a::l,vs=>∃x xs,vs=x::xs/\VR H a x/\aG H l xs
end
inductive Tr(α:Type) where
 |nil
 |nd (v:Option α) (l r:Tr α)
 deriving Inhabited
def Tr.val{α:Type}(t:Tr α):Option α:=Tr.casesOn t none (λv _ _=>v)
def Tr.Fv{α:Type}(t:Tr α):Tr α:=Tr.casesOn t .nil (λ_ l _=>l)
def Tr.FU{α:Type}(t:Tr α):Tr α:=Tr.casesOn t .nil (λ_ _ r=>r)
def Tr.wV{α:Type}(p:List Bool):Tr α->Option α:=List.rec (motive:=λ_=>Tr α->Option α) Tr.val (λb _ a t=>a (bif b then t.Fv else t.FU)) p
def Tr.LP{α:Type}(x:Option α)(p:List Bool):Tr α->Tr α:=List.rec (motive:=λ_=>Tr α->Tr α) (λt=>.nd x t.Fv t.FU)
 (λb _ a t=>bif b then .nd t.val (a t.Fv) t.FU else .nd t.val t.Fv (a t.FU)) p
def SG(f:Nat):Nat->List Bool:=Nat.rec (motive:=λ_=>Nat->List Bool) (λ_=>[]) (λ_ a n=>bif Nat.beq n 0 then[]else Nat.beq ((n-1)%2) 0::a ((n-1)/2)) f
def path(n:Nat):List Bool:=SG (Nat.log2 n+1) n
def Tr.get{α:Type}(t:Tr α)(n:Nat):Option α:=Tr.wV (path n) t
def Tr.set{α:Type}(t:Tr α)(n:Nat)(x:Option α):Tr α:=Tr.LP x (path n) t
inductive bP where
 |cells (c:Q3) (et:TypeId) (rw opn:Bool)
 |iter (s:Q0) (pos:Nat)
 |map (es:XX)
 |iterM (m:W2)
 |vec (n:Nat) (et:TypeId) (f:Bool)
 |smap (n:Nat) (kk:Wg) (sz:W2)
 |pmap (es:List (Q0×AV))
 deriving Inhabited
abbrev YY:=List (Nat×bP)
abbrev WP:=List (Nat×Option bP)
structure aC where
 h:Tr bP
 next:Nat
 lock:Nat
 deriving Inhabited
abbrev Wf:=Option (AV×aC)
abbrev W5:=Option (Q4×aC)
def aC.get(F:aC)(id:Nat):Option bP:=F.h.get id
def aC.put(F:aC)(id:Nat)(o:bP):aC:={F with h:=F.h.set id (some o)}
def aC.kill(F:aC)(id:Nat):aC:={F with h:=F.h.set id none}
def aC.new(F:aC)(o:bP):aC:={F with h:=F.h.set F.next (some o),next:=F.next+1}
def xg{α β:Type}(f:α->Option β):List α->Option (List β)
 |[]=>some []
 |x::xs=>match f x with
  |none=>none
  |some y=>match xg f xs with
   |none=>none
   |some a=>some (y::a)
def AV.toVal:Nat->AV->Option Value
 |0,_=>none
 |n+1,a=>
  match a with
  |.b x=>some (.bool x)
  |.i k x=>some (.int k x)
  |.s x=>some (.string ⟨⟨x⟩⟩)
  |.kL=>some (.pointer none)
  |.iw=>some (.slice none 0 0)
  |.rQ=>some (.map none)
  |.AU=>some .nilFunc
  |.vS=>some .nilIface
  |.jM t v=>(AV.toVal n v).map (.iface t)
  |.agg l=>(xg (AV.toVal n) l).map λvs=>.agg ⟨vs⟩
  |.fK l=>(xg (AV.toVal n) l).map λvs=>.tuple ⟨vs⟩
  |_=>none
def oH:Nat->Value->Option AV
 |0,_=>none
 |n+1,v=>
  match v with
  |.bool x=>some (.b x)
  |.int k x=>some (.i k x)
  |.string s=>some (.s s.data.toList)
  |.pointer none=>some .kL
  |.slice none 0 0=>some .iw
  |.map none=>some .rQ
  |.nilFunc=>some .AU
  |.nilIface=>some .vS
  |.iface t x=>(oH n x).map (.jM t)
  |.agg cs=>(xg (oH n) cs.toList).map .agg
  |.tuple cs=>(xg (oH n) cs.toList).map .fK
  |_=>none
def tu{α:Type}(P:Program):Sem α->Option α
 |.pure a=>some a
 |.program k=>tu P (k P)
 |.mark _ k=>tu P k
 |_=>none
structure bM where
 t:Tr AV
 n:Nat
 gn:Nat
def bM.eval(a:bM):Operand->Option AV
 |.tmp t=>a.t.get t
 |.const v=>oH 4 v
 |.global g=>if g<a.gn then some (.p g 0)else none
 |.func f=>some (.fn f [] [])
def bM.put(a:bM)(dst:Option Tmp)(v:Q4):Option bM:=
 match dst with
 |none=>some a
 |some d=>if d<a.n then some {a with t:=a.t.set d v}else none
def AV.cells:AV->List AV
 |.agg l=>l
 |v=>[v]
def AV.qp:AV->Bool
 |.agg _|.fK _=>false
 |_=>true
def Bg(P:Program)(t:TypeId):Option Q3:=
 match P.info? t with
 |some i=>match i.zero with
  |some z=>(oH 4 z).map AV.cells
  |none=>none
 |none=>none
def qw(P:Program)(t:TypeId):Ys:=
 match P.underlying t with
 |some (.struct _)|some (.array _ _)=>some true
 |some _=>some false
 |none=>none
def sizeT(P:Program)(t:TypeId):W2:=(P.info? t).map (·.size)
def takeN(l:Q3)(off n:Nat):Option Q3:=
 let r:=(l.drop off).take n
 if r.length=n then some r else none
def CP(l:Q3)(off:Nat)(vs:Q3):Option Q3:=
 if off+vs.length<=l.length then some (l.take off++vs++l.drop (off+vs.length))else none
def Dc(a:Nat->Option (Nat×Nat))(cells:Q3):Wo->Option Q3
 |[]=>some cells
 |(i,v)::rest=>
  match a i with
  |none=>none
  |some (off,size)=>
   if v.cells.length=size then
    match CP cells off v.cells with
    |some cs=>Dc a cs rest
    |none=>none
   else none
def H8(a:QQ):List (Nat×Operand)->Option Wo
 |[]=>some []
 |(i,x)::rest=>match a x,H8 a rest with
  |some v,some r=>some ((i,v)::r)
  |_,_=>none
def DC(a:QQ):List Operand->Option Q3
 |[]=>some []
 |x::rest=>match a x,DC a rest with
  |some v,some r=>some (v::r)
  |_,_=>none
def UR(P:Program)(t:TypeId)(cs:Q3)(off:Nat):Q4:=
 match qw P t with
 |some true=>match sizeT P t with
  |some n=>(takeN cs off n).map .agg
  |none=>none
 |some false=>cs[off]?
 |none=>none
def Tz(P:Program):List Field->Option WF
 |[]=>some []
 |f::fs=>match sizeT P f.type,Tz P fs with
  |some n,some r=>some ((f.offset,n)::r)
  |_,_=>none
def UF(P:Program)(t:TypeId)(a:Wo):Q4:=
 match Bg P t,P.underlying t with
 |some zero,some (.struct b)=>
  match Tz P b.toList with
  |some c=>(Dc (λi=>c[i]?) zero a).map .agg
  |none=>none
 |some zero,some (.array _ e)=>
  match sizeT P e with
  |some d=>(Dc (λi=>some (i*d,d)) zero a).map .agg
  |none=>none
 |_,_=>none
def kC(n:Nat)(zero:Q3):Q3:=(List.replicate n zero).flatten
def yK(P:Program)(t:TypeId)(F:aC)(a:AV):Q4:=
 match a with
 |.p id b=>
  match F.get id with
  |some (.cells c _ _ _)=>
   match qw P t with
   |some true=>match sizeT P t with
    |some n=>(takeN c b n).map .agg
    |none=>none
   |some false=>c[b]?
   |none=>none
  |_=>none
 |.rp e b=>
  match qw P t with
  |some true=>match sizeT P t with
   |some n=>(takeN e.cells b n).map .agg
   |none=>none
  |some false=>e.cells[b]?
  |none=>none
 |_=>none
def GN(P:Program)(t:TypeId)(F:aC)(a v:AV):Option aC:=
 match a with
 |.p id b=>
  match F.get id with
  |some (.cells c e true d)=>
   if F.lock<=id/\sizeT P t=some v.cells.length/\v.cells.all AV.qp then
    (CP c b v.cells).map λf=>F.put id (.cells f e true d)
   else none
  |_=>none
 |_=>none
def yJ:AV->Option Int
 |.i _ n=>some n
 |_=>none
def Df(len:Nat)(a:Nat->Bool):Q4->Option Nat
 |none=>some len
 |some v=>match yJ v with
  |some h=>if 0<=h/\a h.toNat=true then some h.toNat else none
  |none=>none
def Nj(h:Nat):Q4->Option Nat
 |none=>some 0
 |some v=>match yJ v with
  |some l=>if 0<=l/\l<=h then some l.toNat else none
  |none=>none
def zM(len:Nat)(a:Nat->Bool)(low b:Q4):Option (Nat×Nat):=
 match Df len a b with
 |none=>none
 |some h=>match Nj h low with
  |none=>none
  |some l=>some (l,h)
def Ld(a:QQ):Option Operand->Option Q4
 |none=>some none
 |some x=>(a x).map some
end
noncomputable section
variable[iM]
def bytesOf:Q3->Option Q0
 |[]=>some []
 |.i .u8 n::rest=>if 0<=n/\n<256 then(bytesOf rest).map (UInt8.ofNat n.toNat::·)else none
 |_::_=>none
def yO(s:Q0):Q3:=s.map λb=>.i .u8 b.toNat
def zi(a:AV):WD:=a.toVal 4
def yR(P:Program)(t:TypeId):Option (TypeId×Nat×Nat×Q3):=
 match P.underlying t with
 |some (.slice e)=>match P.info? e,Bg P e with
  |some i,some z=>if e≠0/\z.length=i.size then some (e,i.size,i.bytes,z)else none
  |_,_=>none
 |_=>none
def Bc(F:aC)(size:Nat):AV->Option (Nat×Q3)
 |.iw=>some (0,[])
 |.sl id off len _=>match F.get id with
  |some (.cells c _ _ _)=>(takeN c off (len*size)).map λr=>(len,r)
  |_=>none
 |.s x=>if size=1 then some (x.length,yO x)else none
 |.ro l=>if l.all (λa=>a.cells.length==size)=true then some (l.length,l.flatMap AV.cells)else none
 |_=>none
def Ik(P:Program)(t:TypeId):Bool:=
 match P.underlying t with
 |some (.slice _)|some .string=>true
 |_=>false
def sliceLen:AV->Nat
 |.sl _ _ n _=>n
 |_=>0
def su(e size bytes:Nat)(s:AV)(n:Nat)(new:Q3)(F:aC):Wf:=
 if size=0\/new.all AV.qp=false\/¬(2*(sliceLen s+n)*bytes<=2^48/\sliceLen s+n<=2^48)then none else
 match s with
 |.iw=>if n=0 then some (.iw,F)else some (.sl F.next 0 n none,F.new (.cells new e true true))
 |.sl id a len (some d)=>
  if len+n<=d then
   if n=0 then some (s,F)else
   match F.get id with
   |some (.cells c f true g)=>
    if F.lock<=id then
     (CP c (a+len*size) new).map λh=>(.sl id a (len+n) (some d),F.put id (.cells h f true g))
    else none
   |_=>none
  else
   match F.get id with
   |some (.cells c _ _ _)=>(takeN c a (len*size)).map λb=>(.sl F.next 0 (len+n) none,F.new (.cells (b++new) e true true))
   |_=>none
 |.sl id a len none=>
  if n=0 then some (s,F)
  else if F.lock<=id then
   match F.get id with
   |some (.cells c f true true)=>if f=e then(takeN c a (len*size)).map λb=>(.sl F.next 0 (len+n) none,(F.kill id).new (.cells (b++new) e true true))else none
   |_=>none
  else none
 |.ro l=>if n=0 then some (.ro l,F)else none
 |_=>none
def Zu(P:Program)(a:Wt)(s x:AV)(F:aC):Wf:=
 match a.toList with
 |[t,c]=>
  match yR P t,Ik P c with
  |some (e,b,bytes,_),true=>
   match Bc F b x with
   |some (n,new)=>su e b bytes s n new F
   |none=>none
  |_,_=>none
 |_=>none
def UK(P:Program)(F:aC)(t:TypeId)(x:AV):Q4:=
 match P.underlying t,x with
 |some .string,.s s=>some (.i .i64 s.length)
 |some (.slice _),.iw=>some (.i .i64 0)
 |some (.slice _),.sl _ _ n _=>some (.i .i64 n)
 |some (.slice _),.ro l=>some (.i .i64 l.length)
 |some (.map _ _),.rQ=>some (.i .i64 0)
 |some (.map _ _),.mp id=>match F.get id with
  |some (.map es)=>some (.i .i64 es.length)
  |_=>none
 |some (.array n _),_=>some (.i .i64 n)
 |_,_=>none
def UM(P:Program)(t:TypeId)(len cap:AV)(F:aC):Wf:=
 match yR P t,yJ len,yJ cap with
 |some (e,a,bytes,z),some l,some c=>
  if 0<=l/\l<=c/\bytes*c<=2^48/\c<=2^60 then
   some (.sl F.next 0 l.toNat (some c.toNat),F.new (.cells (if a=0 then[]else kC c.toNat z) e true false))
  else none
 |_,_,_=>none
def UU(size:Nat)(es:Q3)(l h:Nat):Q4:=
 if h=l then some (.ro [])else
 match es[0]? with
 |some a=>if a.cells.length=size then some (.ro ((es.take h).drop l))else none
 |none=>none
def Di(P:Program)(t:TypeId)(F:aC)(x:AV)(lo hi:Q4):Q4:=
 match P.underlying t,x with
 |some .string,.s s=>(zM s.length (λh=>Nat.ble h s.length) lo hi).map λ(l,h)=>.s ((s.take h).drop l)
 |some (.slice e),.sl id b len d=>
  match sizeT P e,d with
  |some a,some c=>
   (zM len (λh=>Nat.ble h c) lo hi).bind λ(l,h)=>
    if c=l then some (.sl id b (h-l) (some 0))else some (.sl id (b+l*a) (h-l) (some (c-l)))
  |some a,none=>
   match F.get id with
   |some (.cells _ f _ true)=>if f=e then
     (zM len (λh=>Nat.ble h len) lo hi).bind λ(l,h)=>
      if l<len then some (.sl id (b+l*a) (h-l) none)else if l=0 then some (.sl id b (h-l) none)else if h=l then some (.ro [])else none
    else none
   |_=>none
  |none,_=>none
 |some (.slice e),.iw=>match sizeT P e with
  |some _=>(zM 0 (λh=>Nat.ble h 0) lo hi).map λ_=>.iw
  |none=>none
 |some (.slice e),.ro es=>match sizeT P e with
  |some a=>(zM es.length (λh=>Nat.ble h es.length) lo hi).bind λ(l,h)=>UU a es l h
  |none=>none
 |some (.array n e),.p id b=>match sizeT P e with
  |some a=>(zM n (λh=>Nat.ble h n) lo hi).map λ(l,h)=>
    if n=l then .sl id b (h-l) (some 0)else .sl id (b+l*a) (h-l) (some (n-l))
  |none=>none
 |_,_=>none
def UJ(P:Program)(t:TypeId)(x:AV)(f:Nat):Q4:=
 match P.underlying t,x with
 |some (.struct b),.p id c=>
  match b[f]? with
  |some d=>match sizeT P d.type with
   |some n=>if n=0 then none else some (.p id (c+d.offset))
   |none=>none
  |none=>none
 |some (.struct b),.rp a c=>
  match b[f]? with
  |some d=>match sizeT P d.type with
   |some n=>if n=0 then none else some (.rp a (c+d.offset))
   |none=>none
  |none=>none
 |_,_=>none
def UH(P:Program)(t:TypeId)(x:AV)(f:Nat):Q4:=
 match P.underlying t,x with
 |some (.struct a),.agg c=>
  match a[f]? with
  |some b=>UR P b.type c b.offset
  |none=>none
 |_,_=>none
def Aq(P:Program)(t:TypeId)(x d:AV):Q4:=
 match P.underlying t,x,yJ d with
 |some (.slice e),.sl id c len _,some k=>
  match sizeT P e with
  |some b=>if 0<=k/\k<len then some (.p id (c+k.toNat*b))else none
  |none=>none
 |some (.array len e),.p id c,some k=>
  match sizeT P e with
  |some b=>if 0<=k/\k<len then some (.p id (c+k.toNat*b))else none
  |none=>none
 |some (.slice e),.ro l,some k=>
  match sizeT P e with
  |some b=>if 0<=k then match l[k.toNat]? with
   |some a=>if a.cells.length=b then some (.rp a 0)else none
   |none=>none
   else none
  |none=>none
 |some (.array len e),.rp a c,some k=>
  match sizeT P e with
  |some b=>if 0<=k/\k<len then some (.rp a (c+k.toNat*b))else none
  |none=>none
 |_,_,_=>none
def GL(P:Program)(t:TypeId)(x b:AV):Q4:=
 match P.underlying t,x,yJ b with
 |some .string,.s s,some k=>
  if 0<=k then match s[k.toNat]? with
   |some c=>some (.i .u8 c.toNat)
   |none=>none
  else none
 |some (.array len e),.agg d,some k=>
  match sizeT P e with
  |some a=>if 0<=k/\k<len then UR P e d (k.toNat*a)else none
  |none=>none
 |_,_,_=>none
def Am(P:Program)(src dst:TypeId)(x:AV)(F:aC):Wf:=
 match P.underlying src,P.underlying dst,x with
 |some _,some (.int k),.i _ n=>some (.i k (k.wrap n),F)
 |some .string,some .string,.s s=>some (.s s,F)
 |some .string,some (.slice e),.s s=>
  match P.underlying e with
  |some (.int .u8)=>if e≠0/\sizeT P e=some 1 then some (.sl F.next 0 s.length none,F.new (.cells (yO s) e true true))else none
  |_=>none
 |some (.slice e),some .string,.iw=>
  match P.underlying e with
  |some (.int .u8)=>some (.s [],F)
  |_=>none
 |some (.slice e),some .string,.sl id a len _=>
  match P.underlying e,F.get id with
  |some (.int .u8),some (.cells c _ _ _)=>match takeN c a len with
   |some r=>(bytesOf r).map λb=>(.s b,F)
   |none=>none
  |_,_=>none
 |some (.slice e),some .string,.ro l=>
  match P.underlying e with
  |some (.int .u8)=>(bytesOf l).map λb=>(.s b,F)
  |_=>none
 |some (.pointer t),some .unsafePointer,.p id a=>
  match F.get id,sizeT P t with
  |some (.cells c d _ false),some n=>if d≠0/\a<c.length/\n≠0 then some (.p id a,F)else none
  |_,_=>none
 |some .unsafePointer,some (.pointer u),.p id a=>
  match F.get id,sizeT P u with
  |some (.cells c d _ false),some _=>if d≠0/\liesAt P P.depth d (c.length/P.cellsOf d) a u 1=true then some (.p id a,F)else none
  |_,_=>none
 |_,_,_=>none
def Vx(e:BinOp)(a b c d:Int):Q4:=
 match e with
 |.lss=>if b<c then some (.b true)else if d<=a then some (.b false)else none
 |.leq=>if b<=c then some (.b true)else if d<a then some (.b false)else none
 |.gtr=>if d<a then some (.b true)else if b<=c then some (.b false)else none
 |.geq=>if d<=a then some (.b true)else if b<c then some (.b false)else none
 |.eql=>if b<c\/d<a then some (.b false)else none
 |.neq=>if b<c\/d<a then some (.b true)else none
 |_=>none
def wH(P:Program)(g:BinOp)(t:TypeId)(x y:Operand)(a b:AV):Q4:=
 match g,a,b with
 |.eql,.p id d,.p f c=>match P.underlying t with
  |some (.pointer e)=>match sizeT P e with
   |some n=>if id=f/\n≠0 then some (.b (d==c))else none
   |none=>none
  |_=>none
 |.neq,.p id d,.p f c=>match P.underlying t with
  |some (.pointer e)=>match sizeT P e with
   |some n=>if id=f/\n≠0 then some (.b (!(d==c)))else none
   |none=>none
  |_=>none
 |.eql,.p _ _,.kL|.eql,.kL,.p _ _=>match P.underlying t with
  |some (.pointer _)=>some (.b false)
  |_=>none
 |.neq,.p _ _,.kL|.neq,.kL,.p _ _=>match P.underlying t with
  |some (.pointer _)=>some (.b true)
  |_=>none
 |.eql,.ro (_::_),.iw|.eql,.iw,.ro (_::_)=>match P.underlying t with
  |some (.slice _)=>some (.b false)
  |_=>none
 |.neq,.ro (_::_),.iw|.neq,.iw,.ro (_::_)=>match P.underlying t with
  |some (.slice _)=>some (.b true)
  |_=>none
 |.eql,.rp _ _,.kL|.eql,.kL,.rp _ _=>match P.underlying t with
  |some (.pointer _)=>some (.b false)
  |_=>none
 |.neq,.rp _ _,.kL|.neq,.kL,.rp _ _=>match P.underlying t with
  |some (.pointer _)=>some (.b true)
  |_=>none
 |.eql,.sl ..,.iw|.eql,.iw,.sl ..=>match P.underlying t with
  |some (.slice _)=>some (.b false)
  |_=>none
 |.neq,.sl ..,.iw|.neq,.iw,.sl ..=>match P.underlying t with
  |some (.slice _)=>some (.b true)
  |_=>none
 |.eql,.jM _ _,.vS|.eql,.vS,.jM _ _=>match P.underlying t with
  |some (.interface _)=>some (.b false)
  |_=>none
 |.neq,.jM _ _,.vS|.neq,.vS,.jM _ _=>match P.underlying t with
  |some (.interface _)=>some (.b true)
  |_=>none
 |.eql,.mp _,.rQ|.eql,.rQ,.mp _=>match P.underlying t with
  |some (.map _ _)=>some (.b false)
  |_=>none
 |.neq,.mp _,.rQ|.neq,.rQ,.mp _=>match P.underlying t with
  |some (.map _ _)=>some (.b true)
  |_=>none
 |_,.z k lo hi,.i h n=>if k=h then Vx g lo hi n n else none
 |_,.i k n,.z h lo hi=>if k=h then Vx g n n lo hi else none
 |_,_,_=>
  match zi a,zi b with
  |some u,some v=>(tu P (do eqGuard g t x y u v;binOp g t u v)).bind (oH 4)
  |_,_=>none
def abD:AV->AV->Option Bool
 |.i k a,.i c b=>if k=c then some (a==b)else none
 |.s a,.s b=>some (a==b)
 |.b a,.b b=>some (a==b)
 |.z k lo hi,.i c b=>if k=c/\(b<lo\/hi<b)then some false else none
 |_,_=>none
def JY(k:AV):XX->Nat->Option (Option (Nat×AV))
 |[],_=>some none
 |e::es,i=>match abD k e.1 with
  |some true=>some (some (i,e.2))
  |some false=>JY k es (i+1)
  |none=>none
def V8(P:Program)(t:TypeId)(k:AV):Bool:=
 match P.underlying t,k with
 |some (.int _),.i _ _|some (.int _),.z _ _ _|some .string,.s _|some .bool,.b _=>true
 |_,_=>false
def UL(P:Program)(t:TypeId)(m k:AV)(ok:Bool)(F:aC):Q4:=
 match P.underlying t with
 |some (.map a b)=>
  match(match m with|.rQ=>some []|.mp id=>(match F.get id with|some (.map es)=>some es|_=>none)|_=>none)with
  |some es=>
   if V8 P a k then
    match JY k es 0 with
    |some (some (_,v))=>some (if ok then .fK [v,.b true]else v)
    |some none=>
     match P.info? b with
     |some i=>match i.zero with
      |some z=>(oH 4 z).map λz=>if ok then .fK [z,.b false]else z
      |none=>none
     |none=>none
    |none=>none
   else none
  |none=>none
 |_=>none
def UN(P:Program)(t:TypeId)(m k v:AV)(F:aC):Option aC:=
 match P.underlying t,m with
 |some (.map a _),.mp id=>
  match F.get id with
  |some (.map es)=>
   if F.lock<=id/\V8 P a k then
    match JY k es 0 with
    |some (some (i,_))=>some (F.put id (.map (es.set i (k,v))))
    |some none=>some (F.put id (.map (es++[(k,v)])))
    |none=>none
   else none
  |_=>none
 |_,_=>none
def Ku(P:Program)(t:TypeId):Ys:=
 match P.underlying t with
 |some (.interface _)=>some true
 |some _=>some false
 |none=>none
def UW(P:Program)(x:AV)(t:TypeId)(ok:Bool):Q4:=
 match Ku P t,x with
 |some false,.jM u v=>
  if u=t then some (if ok then .fK [v,.b true]else v)
  else if ok then match P.info? t with
   |some i=>match i.zero with
    |some z=>(oH 4 z).map λz=>.fK [z,.b false]
    |none=>none
   |none=>none
  else none
 |some false,.vS=>
  if ok then match P.info? t with
   |some i=>match i.zero with
    |some z=>(oH 4 z).map λz=>.fK [z,.b false]
    |none=>none
   |none=>none
  else none
 |_,_=>none
def UQ(it:AV)(F:aC):Wf:=
 match it with
 |.p id 0=>
  match F.get id with
  |some (.iter s pos)=>
   if F.lock<=id then
    if pos<s.length then
     let r:=Utf8.decode ⟨⟨s⟩⟩ pos
     some (.fK [.b true,.i .i64 pos,.i .i32 r.1],F.put id (.iter s (pos+r.2)))
    else some (.fK [.b false],F)
   else none
  |_=>none
 |_=>none
def Zw(P:Program)(b:Wt)(d x:AV)(F:aC):Wf:=
 match b[0]? with
 |some t=>
  match yR P t,d with
  |some (_,a,_,_),.sl id f e _=>
   match Bc F a x,F.get id with
   |some (n,new),some (.cells c h true g)=>
    let k:=Nat.min n e
    if a=0 then none else
    if F.lock<=id/\new.all AV.qp then
     (CP c f (new.take (k*a))).map λi=>(.i .i64 k,F.put id (.cells i h true g))
    else none
   |_,_=>none
  |some (_,a,_,_),.iw=>match Bc F a x with
   |some _=>some (.i .i64 0,F)
   |none=>none
  |_,_=>none
 |none=>none
def Zv(P:Program)(t:TypeId)(x:AV)(F:aC):Wf:=
 match P.underlying t,x with
 |some (.slice _),.iw=>some (.fK [],F)
 |some (.slice _),.ro []=>some (.fK [],F)
 |some (.slice e),.sl id a n _=>
  if n=0 then some (.fK [],F)else
  match Bg P e,F.get id with
  |some z,some (.cells c d true b)=>
   if F.lock<=id/\z.all AV.qp then
    (CP c a (kC n z)).map λf=>(.fK [],F.put id (.cells f d true b))
   else none
  |_,_=>none
 |some (.map _ _),.rQ=>some (.fK [],F)
 |some (.map _ _),.mp id=>match F.get id with
  |some (.map _)=>if F.lock<=id then some (.fK [],F.put id (.map []))else none
  |_=>none
 |_,_=>none
def aas(m c:Nat):Bool:=match iM.nodes[m]?,iM.nodes[c]? with
 |some (.ci k a),some (.ci d b)=>Nat.beq (kc k) (kc d)&&!(Kt a b)
 |some (.cs a),some (.cs b)=>!(Dp a b)
 |_,_=>false
def IB(n m:Nat):Wk->Bool
 |[]=>false
 |p::l=>(bif p.2 then(match iM.nodes[p.1]? with
  |some (.bin .eql a b)=>Nat.beq n a&&aas m b
  |_=>false)else false) ||IB n m l
def Hu:BinOp->Option BinOp
 |.eql=>some .neq
 |.neq=>some .eql
 |.lss=>some .geq
 |.geq=>some .lss
 |.leq=>some .gtr
 |.gtr=>some .leq
 |_=>none
def NG(c n m:Nat):Wk->Option Bool
 |[]=>none
 |p::l=>match iM.nodes[p.1]? with
  |some (.bin a b d)=>bif Nat.beq n b&&Nat.beq m d&&Nat.beq (xZ a) c then some p.2 else NG c n m l
  |_=>NG c n m l
def Ti(c:BinOp)(n m:Nat):Ys:=match Hu c with
 |some a=>(NG (xZ a) n m iM.dec).map λb=>!b
 |none=>none
def adC(x:Nd):Ys:=match x with
 |.bin .eql n m=>bif IB n m iM.dec then some false else Ti .eql n m
 |.bin .neq n m=>bif IB n m iM.dec then some true else Ti .neq n m
 |.bin a n m=>Ti a n m
 |_=>none
def lV(x:Nd):Q4:=
 match gB x with
 |some n=>match aaw n with
  |some b=>some (.b b)
  |none=>match adC x with
   |some b=>some (.b b)
   |none=>some (.nd n)
 |none=>none
def jE:AV->Option Nat
 |.nd n=>some n
 |.i k n=>gB (.ci k n)
 |.b x=>gB (.cb x)
 |.s x=>gB (.cs x)
 |.iw=>gB (.ml [])
 |_=>none
def nodesOf:Q3->Option Q2
 |[]=>some []
 |a::l=>match jE a,nodesOf l with
  |some n,some r=>some (n::r)
  |_,_=>none
def GU:AV->Option Nat
 |.agg l=>match nodesOf l with
  |some a=>gB (.mk a)
  |none=>none
 |_=>none
def yj:Nat->Nat->Nat->Bool
 |0,m,n=>Nat.beq m n
 |f+1,m,n=>Nat.beq m n ||match iM.nodes[m]? with
  |some (.upd _ _ a _ _)=>yj f a n
  |some (.same a _)=>yj f a n
  |_=>false
def elemsOf(agg:Bool)(size:Nat):Nat->List AV->Option Q2
 |0,_=>some []
 |n+1,cs=>match(if agg then GU (.agg (cs.take size))else(cs.head?).bind jE),elemsOf agg size n (cs.drop size)with
  |some a,some r=>some (a::r)
  |_,_=>none
def listOf(P:Program)(F:aC)(e:TypeId):AV->Option Nat
 |.nd n=>some n
 |.iw=>gB (.ml [])
 |.sv id n=>match F.get id with
  |some (.vec m et _)=>if Nat.beq e et&&yj 100 m n then some m else none
  |_=>none
 |.sl id off len _=>match F.get id,sizeT P e,qw P e with
  |some (.cells c et _ _),some size,some agg=>if Nat.beq e et&&((agg&&Nat.blt 0 size) ||Nat.beq size 1)then match takeN c off (len*size)with
   |some cs=>match elemsOf agg size len cs with
    |some a=>gB (.ml a)
    |none=>none
   |none=>none
   else none
  |_,_,_=>none
 |_=>none
def axj(a:AV):Bool:=
 match a with
 |.nd _|.rx _ _|.sv _ _|.pv _ _ _|.pd _ _=>true
 |_=>false
def ada(P:Program)(t:TypeId):W2:=
 match P.underlying t with
 |some (.int _)=>some 0
 |some .string=>some 1
 |some .bool=>some 2
 |_=>none
def OQ(P:Program):List Field->Nat->Option Q2
 |[],_=>some []
 |f::fs,k=>if !(f.name == "_")&&Nat.beq f.offset k then match ada P f.type,OQ P fs (k+1)with
  |some a,some r=>some (a::r)
  |_,_=>none
  else none
def Yw(P:Program)(c:BinOp)(t:TypeId)(a b:AV):Q4:=
 match P.underlying t with
 |some (.int _)|some .string=>match jE a,jE b with
  |some x,some y=>lV (.bin c x y)
  |_,_=>none
 |some .bool=>match jE a,jE b with
  |some x,some y=>lV (.G6 c x y)
  |_,_=>none
 |some (.struct d)=>if !(P.stoodInHeld t)&&!(P.eqGuardType P.depth t)then match OQ P d.toList 0,GU a,GU b with
   |some e,some x,some y=>lV (.G7 c e x y)
   |_,_,_=>none
  else none
 |some (.pointer _)=>match c,a,b with
  |.eql,.rx _ _,.kL|.eql,.kL,.rx _ _=>some (.b false)
  |.neq,.rx _ _,.kL|.neq,.kL,.rx _ _=>some (.b true)
  |.eql,.pv _ _ _,.kL|.eql,.kL,.pv _ _ _=>some (.b false)
  |.neq,.pv _ _ _,.kL|.neq,.kL,.pv _ _ _=>some (.b true)
  |_,_,_=>none
 |_=>none
def Pv(b:UnOp)(a:AV):Q4:=
 match a with
 |.nd n=>lV (.un b n)
 |_=>none
def Yx(P:Program)(src dst:TypeId)(x:AV)(F:aC):Wf:=
 match P.underlying src,P.underlying dst,x with
 |some _,some (.int k),.nd n=>(lV (.conv k n)).map (·,F)
 |some .string,some .string,.nd n=>(lV (.IW n)).map (·,F)
 |some .string,some (.slice e),.nd n=>
  match P.underlying e with
  |some (.int .u8)=>if e≠0/\sizeT P e=some 1 then match gB (.bytes n)with
    |some m=>some (.sv F.next m,F.new (.vec m e false))
    |none=>none
   else none
  |_=>none
 |some (.slice e),some .string,x=>
  match P.underlying e with
  |some (.int .u8)=>match listOf P F e x with
    |some m=>(lV (.str m)).map (·,F)
    |none=>none
  |_=>none
 |_,_,_=>none
def ad5(P:Program)(t:TypeId)(x:AV):Q4:=
 match P.underlying t,x with
 |some .string,.nd n=>lV (.slen n)
 |some (.slice _),.nd n=>lV (.len n)
 |some (.slice _),.sv _ n=>lV (.len n)
 |_,_=>none
def dB(a:Q4):Q4:=
 match a with
 |some (.nd n)=>match aaw n with
  |some b=>some (.b b)
  |none=>none
 |x=>x
def KC(i:Nat):Nat->Nat->Option AV
 |0,_=>none
 |c+1,j=>match lV (.Cb i j)with
  |some (.b true)=>some (.i .i64 j)
  |some (.b false)=>KC i c (j+1)
  |some (.nd m)=>match dB (some (.nd m))with
   |some (.b true)=>some (.i .i64 j)
   |some (.b false)=>KC i c (j+1)
   |_=>none
  |_=>none
def Yz(P:Program)(t:TypeId)(x a:AV):Q4:=
 match P.underlying t with
 |some .string=>match jE x,jE a with
  |some n,some i=>lV (.IX n i)
  |_,_=>none
 |some (.array len _)=>match jE a with
  |some i=>match KC i len 0 with
   |some k=>GL P t x k
   |none=>none
  |none=>none
 |_=>none
def Qp:Q4->Option Nat
 |none=>gB (.ci .i64 0)
 |some a=>jE a
def U9(x:Nd):Q4->Option Nat
 |none=>gB x
 |some a=>jE a
def TJ(P:Program)(t:TypeId)(x:AV)(lo hi:Q4):Q4:=
 match P.underlying t with
 |some .string=>match jE x with
  |some n=>match Qp lo,U9 (.slen n) hi with
   |some l,some h=>lV (.IY n l h)
   |_,_=>none
  |none=>none
 |some (.slice e)=>match x,sizeT P e with
  |.nd n,some a=>match Qp lo,U9 (.len n) hi with
   |some l,some h=>lV (.FB a n l h)
   |_,_=>none
  |_,_=>none
 |_=>none
def YF(P:Program)(t:TypeId)(F:aC)(x:AV)(lo hi:Q4):Wf:=
 match P.underlying t,x with
 |some (.slice e),.sv id n=>match F.get id,sizeT P e with
  |some (.vec m b f),some a=>if Nat.beq e b&&yj 100 m n&&Nat.ble F.lock id then
    match lo with
    |none=>match Qp none,U9 (.len m) hi with
     |some z,some h=>(gB (.FB a m z h)).map λk=>(.sv id k,F.put id (.vec k b f))
     |_,_=>none
    |some _=>(TJ P t (.nd m) lo hi).map (·,F.kill id)
   else none
  |_,_=>none
 |_,_=>none
def Yy(P:Program)(t:TypeId)(x:AV)(f:Nat):Q4:=
 match P.underlying t with
 |some (.struct a)=>
  match a[f]? with
  |some c=>match sizeT P c.type with
   |some n=>if n=0 then none else match x with
    |.rx m b=>some (.rx m (b+c.offset))
    |.pv id m b=>some (.pv id m (b+c.offset))
    |_=>none
   |none=>none
  |none=>none
 |_=>none
def YA(P:Program)(F:aC)(t:TypeId)(x b:AV):Q4:=
 match P.underlying t with
 |some (.slice e)=>match sizeT P e,jE b with
  |some a,some i=>match x with
   |.nd n=>(gB (.at a n i)).map λm=>.rx m 0
   |.sv id n=>match F.get id with
    |some (.vec _ c _)=>if Nat.beq e c then(gB (.idx n i)).map λm=>.pv id m 0 else none
    |_=>none
   |.sl _ _ len _=>match KC i len 0 with
    |some k=>Aq P t x k
    |none=>none
   |_=>none
  |_,_=>none
 |some (.array len _)=>match jE b with
  |some i=>match KC i len 0 with
   |some k=>Aq P t x k
   |none=>none
  |none=>none
 |_=>none
def JL(m:Nat):Nat->Nat->Option Q3
 |_,0=>some []
 |off,n+1=>match lV (.cell off m),JL m (off+1) n with
  |some a,some r=>some (a::r)
  |_,_=>none
def TI(P:Program)(t:TypeId)(m off:Nat):Q4:=
 match qw P t with
 |some true=>match sizeT P t with
  |some n=>(JL m off n).map .agg
  |none=>none
 |some false=>lV (.cell off m)
 |none=>none
def YB(P:Program)(t:TypeId)(F:aC)(a:AV):Q4:=
 match a with
 |.rx m b=>TI P t m b
 |.pv id i b=>match F.get id with
  |some (.vec m d _)=>match sizeT P d with
   |some c=>match gB (.at c m i)with
    |some x=>TI P t x b
    |none=>none
   |none=>none
  |_=>none
 |_=>none
def Ry(P:Program)(b:TypeId)(k:AV):Option (Nat×Wg):=
 match P.underlying b,jE k with
 |some (.int a),some n=>match gB (.ci a 0)with
  |some z=>(gB (.bin .eql n z)).map λ_=>(n,some a)
  |none=>none
 |some .string,some n=>match gB (.cs [])with
  |some z=>(gB (.bin .eql n z)).map λ_=>(n,none)
  |none=>none
 |_,_=>none
def abE(n:Nat)(e:AV):Ys:=
 match jE e with
 |some m=>match(lV (.bin .eql n m))with
  |some (.b b)=>some b
  |some (.nd j)=>match dB (some (.nd j))with
   |some (.b b)=>some b
   |_=>none
  |_=>none
 |none=>none
def NU(n:Nat):XX->Nat->Option (Option (Nat×AV))
 |[],_=>some none
 |e::es,i=>match abE n e.1 with
  |some true=>some (some (i,e.2))
  |some false=>NU n es (i+1)
  |none=>none
def TU(P:Program)(et:TypeId)(v:AV):Option (Nat×W2):=
 match qw P et with
 |some true=>match GU v,sizeT P et with
  |some n,some k=>if Nat.beq v.cells.length k then some (n,some k)else none
  |_,_=>none
 |some false=>(jE v).map (·,none)
 |none=>none
def Oq:Wg->Option IntKind->Bool
 |none,none=>true
 |some a,some b=>Nat.beq (kc a) (kc b)
 |_,_=>false
def TK:W2->Option Nat->Bool
 |none,none=>true
 |some a,some b=>Nat.beq a b
 |_,_=>false
def Ud(P:Program)(et:TypeId):Q4:=
 match P.info? et with
 |some i=>match i.zero with
  |some z=>oH 4 z
  |none=>none
 |none=>none
def YC(P:Program)(t:TypeId)(m k:AV)(ok:Bool)(F:aC):Q4:=
 match P.underlying t,m with
 |some (.map f a),.mp id=>
  match Ry P f k,F.get id with
  |some (n,_),some (.map es)=>match NU n es 0 with
   |some (some (_,v))=>some (if ok then .fK [v,.b true]else v)
   |some none=>(Ud P a).map λz=>if ok then .fK [z,.b false]else z
   |none=>none
  |some (n,c),some (.pmap es)=>
   if Oq c none then match NU n (es.map λe=>(AV.s e.1,e.2)) 0 with
    |some (some (_,v))=>some (if ok then .fK [v,.b true]else v)
    |some none=>(Ud P a).map λz=>if ok then .fK [z,.b false]else z
    |none=>none
   else none
  |some (n,c),some (.smap j h i)=>
   if Oq c h then match(Ud P a).bind (TU P a)with
    |some (z,d)=>if TK i d then match(gB (.Iu z j n)).bind λg=>TI P a g 0 with
     |some v=>if ok then match lV (.Iw j n)with
       |some b=>some (.fK [v,b])
       |none=>none
      else some v
     |none=>none
     else none
    |none=>none
   else none
  |_,_=>none
 |_,_=>none
def YE(P:Program)(t:TypeId)(m k v:AV)(F:aC):Option aC:=
 match P.underlying t,m with
 |some (.map e f),.mp id=>
  if Nat.ble F.lock id then
   match Ry P e k,TU P f v,F.get id with
   |some (n,a),some (u,b),some (.map [])=>match gB (.ml [])with
    |some j=>(gB (.DT j n u)).map λc=>F.put id (.smap c a b)
    |none=>none
   |some (n,a),some (u,b),some (.smap j g d)=>if Oq a g&&TK b d then(gB (.DT j n u)).map λc=>F.put id (.smap c a b)else none
   |_,_,_=>none
  else none
 |_,_=>none
def mapArg(v:AV):Bool:=match v with
 |.nd n=>(match iM.nodes[n]? with
  |some (.len _)=>true
  |_=>false)
 |v=>(yJ v).isSome
def YG(P:Program)(t:TypeId)(F:aC)(a v:AV):Option aC:=
 match a with
 |.pv id i c=>match F.get id with
  |some (.vec m d f)=>
   if F.lock<=id/\sizeT P t=some v.cells.length then
    match sizeT P d,nodesOf v.cells with
    |some b,some e=>match gB (.upd b c m i e)with
     |some g=>some (F.put id (.vec g d f))
     |none=>none
    |_,_=>none
   else none
  |_=>none
 |_=>none
def ad3(P:Program)(g:Wt)(s x:AV)(F:aC):Wf:=
 match g.toList with
 |[t,i]=>
  match yR P t with
  |some (e,d,bytes,_)=>
   if d=0 then none else
   match(match P.underlying i with
    |some .string=>if d=1 then match jE x with
      |some n=>gB (.bytes n)
      |none=>none
     else none
    |some (.slice _)=>listOf P F e x
    |_=>none)with
   |none=>none
   |some b=>
    match s with
    |.iw=>match gB (.ml [])with
     |some a=>(gB (.app d bytes a b)).map λm=>(.sv F.next m,F.new (.vec m e true))
     |none=>none
    |.sv id n=>match F.get id with
     |some (.vec a h f)=>if Nat.beq h e&&yj 100 a n&&Nat.ble F.lock id then(gB (.app d bytes a b)).map λm=>(.sv F.next m,(F.kill id).new (.vec m e f))else none
     |_=>none
    |.sl id 0 0 (some 0)=>match F.get id with
     |some (.cells [] h true false)=>if Nat.beq h e&&Nat.ble F.lock id then match gB (.ml [])with
      |some a=>(gB (.app d bytes a b)).map λm=>(.sv F.next m,(F.kill id).new (.vec m e false))
      |none=>none
      else none
     |_=>none
    |.sl id 0 len none=>match F.get id with
     |some (.cells c h true true)=>if Nat.beq h e&&Nat.ble F.lock id&&Nat.beq c.length (len*d)then match listOf P F e (.sl id 0 len none)with
      |some a=>(gB (.app d bytes a b)).map λm=>(.sv F.next m,(F.kill id).new (.vec m e false))
      |none=>none
      else none
     |_=>none
    |_=>none
  |none=>none
 |_=>none
def Xl(P:Program)(e:TypeId)(size len:Nat)(cs:Q3):W2:=
 if cs.any axj then
  match qw P e with
  |some a=>if((a&&Nat.blt 0 size) ||Nat.beq size 1)&&Nat.blt 0 len&&Nat.beq cs.length (len*size)then match elemsOf a size len cs with
   |some b=>gB (.ml b)
   |none=>none
   else none
  |none=>none
 else none
def Xm(P:Program)(F:aC)(e:TypeId)(size len:Nat)(cs:Q3):Q4×aC:=
 match Xl P e size len cs with
 |some m=>(some (.sv F.next m),F.new (.vec m e false))
 |none=>(some (.sl F.next 0 len (some len)),F.new (.cells cs e true false))
def YD(P:Program)(t:TypeId)(len cap:AV)(F:aC):Wf:=
 match P.underlying t with
 |some (.slice d)=>match yR P t,qw P d with
  |some (e,a,bytes,z),some b=>
   if a=0 then none else
   match(if b then GU (.agg z)else(z.head?).bind jE),jE len,jE cap with
   |some f,some l,some c=>(gB (.rep a bytes f l c)).map λm=>(.sv F.next m,F.new (.vec m e false))
   |_,_,_=>none
  |_,_=>none
 |_=>none
def LQ(P:Program)(b:Builtin)(a:Wt)(args:Q3)(F:aC):W5:=
 match b,args with
 |.len,[x]=>match a[0]? with
  |some t=>(ad5 P t x).map λv=>(some v,F)
  |none=>none
 |.append,[s,x]=>(ad3 P a s x F).map λr=>(some r.1,r.2)
 |.min,[x,y]=>match jE x,jE y with
  |some m,some n=>(lV (.mm false m n)).map λv=>(some v,F)
  |_,_=>none
 |.max,[x,y]=>match jE x,jE y with
  |some m,some n=>(lV (.mm true m n)).map λv=>(some v,F)
  |_,_=>none
 |.unsafeSliceData,[.sv id n]=>match F.get id with
  |some (.vec m _ true)=>if yj 100 m n then some (some (.pd id n),F)else none
  |_=>none
 |.unsafeString,[.pd id n,.nd k]=>
  match a.toList with
  |[t,_]=>
   match P.underlying t,F.get id with
   |some (.pointer e),some (.vec m c _)=>
    if c=e/\e≠0/\P.cellsOf e=1/\F.lock<=id then
     match iM.nodes[k]? with
     |some (.len d)=>if yj 100 m n&&yj 100 m d then(lV (.str m)).map λv=>(some v,F.kill id)else none
     |_=>none
    else none
   |_,_=>none
  |_=>none
 |_,_=>none
def UO(P:Program)(a:String)(F:aC):AV->Option (FuncId×AV)
 |.jM t v=>
  match P.info? t,P.underlying t with
  |some i,some d=>match i.methods.find? (·.name==a)with
   |some m=>match m.path.toList,m.func with
    |[],some (f,b)=>match d,b with
     |.pointer _,true=>some (f,v)
     |.pointer e,false=>match v with
      |.p id off=>(yK P e F (.p id off)).map λx=>(f,x)
      |_=>none
     |_,true=>none
     |_,false=>some (f,v)
    |_,_=>none
   |none=>none
  |_,_=>none
 |_=>none
abbrev Caller:=FuncId->List AV->aC->Option (AV×aC)
def fM(F:aC):Q4->Option (Q4×aC):=Option.map λv=>(some v,F)
def vU:Wf->Option (Q4×aC):=Option.map λ(v,F)=>(some v,F)
def O0:Option aC->Option (Q4×aC):=Option.map λF=>(none,F)
def Jt(P:Program)(b:Builtin)(a:Wt)(args:Q3)(F:aC):W5:=
 match b,args with
 |.len,[x]=>match a[0]? with
  |some t=>fM F (UK P F t x)
  |none=>none
 |.append,[s,x]=>vU (Zu P a s x F)
 |.copy,[d,x]=>vU (Zw P a d x F)
 |.clear,[x]=>match a[0]? with
  |some t=>vU (Zv P t x F)
  |none=>none
 |.cap,[x]=>match a[0]? with
  |some t=>match P.underlying t,x with
   |some (.slice _),.iw=>fM F (some (.i .i64 0))
   |some (.slice _),.sl _ _ _ (some c)=>fM F (some (.i .i64 c))
   |_,_=>none
  |none=>none
 |.unsafeSliceData,[.iw]=>fM F (some .kL)
 |.unsafeSliceData,[.sl id f n g]=>if n=0/\(g=none\/g=some 0)then none else fM F (some (.p id f))
 |.unsafeString,[x,.i .i64 n]=>
  match a.toList with
  |[t,_]=>
   if n=0 then(match x with
    |.kL=>fM F (some (.s []))
    |.p _ _=>fM F (some (.s []))
    |_=>none)
   else match x with
   |.p id f=>match P.underlying t,F.get id with
    |some (.pointer e),some (.cells c i true h)=>
     if i=e/\e≠0/\P.cellsOf e=1/\0<n/\n<2^62/\F.lock<=id then
      match takeN c f n.toNat with
      |some r=>match bytesOf r with
       |some b=>some (some (.s b),F.put id (.cells c i false h))
       |none=>none
      |none=>none
     else none
    |_,_=>none
   |_=>none
  |_=>none
 |.min,[x,y]=>match zi x,zi y with
  |some u,some v=>fM F ((tu P (Builtin.min_ #[] 0 #[u,v])).bind (oH 4))
  |_,_=>none
 |.max,[x,y]=>match zi x,zi y with
  |some u,some v=>fM F ((tu P (Builtin.max_ #[] 0 #[u,v])).bind (oH 4))
  |_,_=>none
 |.min,[x,y,z]=>match zi x,zi y,zi z with
  |some u,some v,some t=>fM F ((tu P (Builtin.min_ #[] 0 #[u,v,t])).bind (oH 4))
  |_,_,_=>none
 |_,_=>none
def ad4(b:Builtin)(args:Q3):Bool:=
 match b,args with
 |.append,.iw::_=>!(iM.nodes.isEmpty)
 |_,_=>false
def lX{α:Type}(a:Option α)(b:Unit->Option α):Option α:=
 match a with
 |some x=>some x
 |none=>b ()
def yc{α:Type}{a:Option α}{b:Unit->Option α}{x:α}(h:lX a b=some x):a=some x\/b ()=some x:=by
 unfold lX at h;split at h
 ·exact .inl h
 ·exact .inr h
def xI(P:Program)(call:Caller)(o:Oper)(d:QQ)(F:aC):W5:=
 match o.op with
 |.move x|.assign x=>fM F (d x)
 |.pick c a b=>match dB (d c)with
  |some (.b t)=>fM F (if t then d a else d b)
  |_=>none
 |.alloc t=>(Bg P t).map λz=>(some (.p F.next 0),F.new (.cells z t true false))
 |.box t x=>(d x).map λv=>(some (.p F.next 0),F.new (.cells v.cells t true false))
 |.build t j=>match H8 d j.toList with
  |some D=>fM F (UF P t D)
  |none=>none
 |.buildSlice t len j=>
  match yR P t,H8 d j.toList with
  |some (e,g,_,z),some D=>
   if len*g>2^24 then none else
   match Dc (λi=>some (i*g,g)) (if len*g=0 then[]else kC len z) D with
   |some q=>some (Xm P F e g len q)
   |none=>none
  |_,_=>none
 |.load t a=>match d a with
  |some a=>fM F (lX (yK P t F a) λ_=>YB P t F a)
  |none=>none
 |.store t a x=>match d a,d x with
  |some a,some v=>O0 (lX (GN P t F a v) λ_=>YG P t F a v)
  |_,_=>none
 |.nilCheck x=>match d x with
  |some (.p id n)=>fM F (some (.p id n))
  |some (.rp a n)=>fM F (some (.rp a n))
  |some (.rx m n)=>fM F (some (.rx m n))
  |some (.pv id m n)=>fM F (some (.pv id m n))
  |some (.fn f E q)=>fM F (some (.fn f E q))
  |_=>none
 |.binOp w t x y _=>match d x,d y with
  |some a,some b=>fM F (lX (wH P w t x y a b) λ_=>Yw P w t a b)
  |_,_=>none
 |.unOp w _ x=>match d x with
  |some a=>match zi a with
   |some u=>fM F ((tu P (Op.unary w u)).bind (oH 4))
   |none=>fM F (Pv w a)
  |none=>none
 |.convert src A x=>match d x with
  |some a=>vU (lX (Am P src A a F) λ_=>Yx P src A a F)
  |none=>none
 |.makeInterface t x=>match d x,Ku P t with
  |some a,some false=>fM F (some (.jM t a))
  |_,_=>none
 |.makeFunc (.func f) first p=>match DC d first.toList,DC d p.toList with
   |some E,some q=>fM F (some (.fn f E q))
   |_,_=>none
 |.makeMap t r=>match r with
  |none=>some (some (.mp F.next),F.new (.map []))
  |some h=>match d h,P.underlying t with
   |some v,some (.map _ _)=>if mapArg v then some (some (.mp F.next),F.new (.map []))else none
   |_,_=>none
 |.makeSlice t l c=>match d l,d c with
  |some l,some c=>vU (lX (UM P t l c F) λ_=>YD P t l c F)
  |_,_=>none
 |.slice t x lo hi none=>match d x,Ld d lo,Ld d hi with
  |some v,some lo,some hi=>lX (fM F (lX (Di P t F v lo hi) λ_=>TJ P t v lo hi)) λ_=>vU (YF P t F v lo hi)
  |_,_,_=>none
 |.fieldAddr t x f=>match d x with
  |some a=>fM F (lX (UJ P t a f) λ_=>Yy P t a f)
  |none=>none
 |.field t x f=>match d x with
  |some a=>fM F (UH P t a f)
  |none=>none
 |.indexAddr t x G=>match d x,d G with
  |some a,some k=>fM F (lX (Aq P t a k) λ_=>YA P F t a k)
  |_,_=>none
 |.index t x G=>match d x,d G with
  |some a,some k=>fM F (lX (GL P t a k) λ_=>Yz P t a k)
  |_,_=>none
 |.lookup t m k ok=>match d m,d k with
  |some m,some k=>fM F (lX (UL P t m k ok F) λ_=>YC P t m k ok F)
  |_,_=>none
 |.mapUpdate t m k v|.insert t m k v=>match d m,d k,d v with
  |some m,some k,some v=>O0 (lX (UN P t m k v F) λ_=>YE P t m k v F)
  |_,_,_=>none
 |.range t x=>match P.underlying t,d x with
  |some .string,some (.s s)=>some (some (.p F.next 0),F.new (.iter s 0))
  |some (.map _ _),some .rQ=>some (some (.p F.next 0),F.new (.iterM none))
  |some (.map _ _),some (.mp id)=>match F.get id with
   |some (.map _)=>some (some (.p F.next 0),F.new (.iterM (some id)))
   |_=>none
  |_,_=>none
 |.next H true=>match d H with
  |some a=>vU (UQ a F)
  |none=>none
 |.next H false=>match d H with
  |some (.p id 0)=>match F.get id with
   |some (.iterM none)=>some (some (.fK [.b false]),F)
   |some (.iterM (some m))=>match F.get m with
    |some (.map [])=>some (some (.fK [.b false]),F)
    |_=>none
   |_=>none
  |_=>none
 |.typeAssert x _ t ok=>match d x with
  |some a=>fM F (UW P a t ok)
  |none=>none
 |.extract x k=>match d x with
  |some (.fK l)=>fM F l[k]?
  |_=>none
 |.call c=>match DC d c.args.toList with
  |some args=>
   match c.callee with
   |.builtin b=>bif ad4 b args then lX (LQ P b c.argTypes args F) λ_=>Jt P b c.argTypes args F else lX (Jt P b c.argTypes args F) λ_=>LQ P b c.argTypes args F
   |.value f=>match d f with
    |some (.fn f I p)=>vU (call f (I++args++p) F)
    |_=>none
   |.invoke r B=>match(d r).bind (UO P B F)with
    |some (f,x)=>vU (call f (x::args) F)
    |none=>none
  |none=>none
 |_=>none
def aaL(c:BinOp)(k:IntKind)(a b:Int):Q4:=
 match c with
 |.add=>some (.i k (k.wrap (a+b)))
 |.sub=>some (.i k (k.wrap (a-b)))
 |.mul=>some (.i k (k.wrap (a*b)))
 |.eql=>some (.b (a==b))
 |.neq=>some (.b (a !=b))
 |.lss=>some (.b (decide (a<b)))
 |.leq=>some (.b (decide (a<=b)))
 |.gtr=>some (.b (decide (a>b)))
 |.geq=>some (.b (decide (a>=b)))
 |_=>none
def aaO(c:BinOp)(a b:Q0):Q4:=
 match c with
 |.add=>if a.length+b.length<=9223372036854775807 then some (.s (a++b))else none
 |.eql=>some (.b (a==b))
 |.neq=>some (.b (!(a==b)))
 |.lss=>some (.b (Op.bytesLess a b))
 |.leq=>some (.b (Op.bytesLess a b ||a==b))
 |.gtr=>some (.b (!(Op.bytesLess a b ||a==b)))
 |.geq=>some (.b (!(Op.bytesLess a b)))
 |_=>none
def aaK(P:Program)(c:BinOp)(t:TypeId)(x y:Operand)(a b:AV):Q4:=
 match a with
 |.i k m=>match b with
  |.i d n=>if k=d then match aaL c k m n with
    |some r=>some r
    |none=>wH P c t x y a b
   else wH P c t x y a b
  |_=>wH P c t x y a b
 |.s u=>match b with
  |.s v=>match aaO c u v with
   |some r=>some r
   |none=>wH P c t x y a b
  |_=>wH P c t x y a b
 |_=>wH P c t x y a b
def toList_mk(l:Q0):(⟨⟨l⟩⟩:ByteArray).toList=l:=by rw[ByteArray.toList_eq]
def atZ{P:Program}{a:BinOp}{t:TypeId}{x y:Operand}{k:IntKind}{m n:Int}{r:AV}(h:aaL a k m n=some r):wH P a t x y (.i k m) (.i k n)=some r:=by
 have b:∀v:Value,(do eqGuard a t x y (.int k m) (.int k n);binOp a t (.int k m) (.int k n):Sem Value)=.pure v->oH 4 v=some r->wH P a t x y (.i k m) (.i k n)=some r:=by
  intro v c d;have:wH P a t x y (.i k m) (.i k n)=(tu P (do eqGuard a t x y (.int k m) (.int k n);binOp a t (.int k m) (.int k n):Sem Value)).bind (oH 4):=by cases a<;>rfl
  rw[this,c];exact d
 cases a<;>simp only[aaL,reduceCtorEq,bD]at h<;>subst h
 all_goals refine b _ (by simp only[eqGuard,binOp,ne_eq,not_true_eq_false,if_false,Op.intArith,Op.intCmp];rfl) rfl
def afF(a b:Q0):((⟨⟨a⟩⟩:ByteArray)++⟨⟨b⟩⟩)=⟨⟨a++b⟩⟩:=by apply ByteArray.ext;rw[ByteArray.data_append];simp
def auy{P:Program}{a:BinOp}{t:TypeId}{x y:Operand}{u v:Q0}{r:AV}(h:aaO a u v=some r):wH P a t x y (.s u) (.s v)=some r:=by
 have b:∀z:Value,(do eqGuard a t x y (.string ⟨⟨u⟩⟩) (.string ⟨⟨v⟩⟩);binOp a t (.string ⟨⟨u⟩⟩) (.string ⟨⟨v⟩⟩):Sem Value)=.pure z->oH 4 z=some r->wH P a t x y (.s u) (.s v)=some r:=by
  intro z c d;have:wH P a t x y (.s u) (.s v)=(tu P (do eqGuard a t x y (.string ⟨⟨u⟩⟩) (.string ⟨⟨v⟩⟩);binOp a t (.string ⟨⟨u⟩⟩) (.string ⟨⟨v⟩⟩):Sem Value)).bind (oH 4):=by cases a<;>rfl
  rw[this,c];exact d
 cases a<;>simp only[aaO,reduceCtorEq,bD]at h
 case add=>
  split at h
  ·next e=>
   cases h;have:¬(((⟨⟨u⟩⟩:ByteArray).size+(⟨⟨v⟩⟩:ByteArray).size:Nat):Int)>IntKind.i64.max:=by
    show ¬((u.length+v.length:Nat):Int)>9223372036854775807
    omega
   exact b (.string ⟨⟨u++v⟩⟩) (by simp only[eqGuard,binOp,Op.stringOp,aj this,afF];rfl) rfl
  ·cases h
 all_goals subst h
 all_goals refine b _ (by simp only[eqGuard,binOp,Op.stringOp,toList_mk];rfl) rfl
def atY(P:Program)(d:BinOp)(t:TypeId)(x y:Operand)(a b:AV):aaK P d t x y a b=wH P d t x y a b:=by
 unfold aaK;split
 ·split
  ·split
   ·next e=>
    subst e;split
    ·next r c=>exact(atZ c).symm
    ·rfl
   ·rfl
  ·rfl
 ·split
  ·split
   ·next r c=>exact(auy c).symm
   ·rfl
  ·rfl
 ·rfl
def fUn(P:Program)(F:aC)(b:UnOp)(a:AV):W5:=
 match b with
 |.not=>match a with
  |.b x=>some (some (.b (!x)),F)
  |_=>match zi a with
   |some u=>fM F ((tu P (Op.unary b u)).bind (oH 4))
   |none=>fM F (Pv b a)
 |_=>match zi a with
  |some u=>fM F ((tu P (Op.unary b u)).bind (oH 4))
  |none=>fM F (Pv b a)
def ahE(_P:Program)(_call:Caller)(a:QQ)(F:aC)(x:Operand):W5:=
 fM F (a x)
def at1(_P:Program)(_call:Caller)(d:QQ)(F:aC)(c:Operand)(a:Operand)(b:Operand):W5:=
 match dB (d c)with
  |some (.b t)=>fM F (if t then d a else d b)
  |_=>none
def auh(P:Program)(_call:Caller)(_ev:QQ)(F:aC)(t:TypeId):W5:=
 (Bg P t).map λz=>(some (.p F.next 0),F.new (.cells z t true false))
def auq(_P:Program)(_call:Caller)(a:QQ)(F:aC)(t:TypeId)(x:Operand):W5:=
 (a x).map λv=>(some (.p F.next 0),F.new (.cells v.cells t true false))
def aur(P:Program)(_call:Caller)(b:QQ)(F:aC)(t:TypeId)(a:Array (Nat×Operand)):W5:=
 match H8 b a.toList with
  |some c=>fM F (UF P t c)
  |none=>none
def aus(P:Program)(_call:Caller)(c:QQ)(F:aC)(t:TypeId)(len:Nat)(b:Array (Nat×Operand)):W5:=
     match yR P t,H8 c b.toList with
    |some (e,a,_,z),some d=>
     if len*a>2^24 then none else
     match Dc (λi=>some (i*a,a)) (if len*a=0 then[]else kC len z) d with
     |some f=>some (Xm P F e a len f)
     |none=>none
    |_,_=>none
def aut(P:Program)(_call:Caller)(b:QQ)(F:aC)(t:TypeId)(a:Operand):W5:=
 match b a with
  |some a=>fM F (lX (yK P t F a) λ_=>YB P t F a)
  |none=>none
def auu(P:Program)(_call:Caller)(b:QQ)(F:aC)(t:TypeId)(a:Operand)(x:Operand):W5:=
 match b a,b x with
  |some a,some v=>O0 (lX (GN P t F a v) λ_=>YG P t F a v)
  |_,_=>none
def auv(_P:Program)(_call:Caller)(c:QQ)(F:aC)(x:Operand):W5:=
 match c x with
  |some (.p id b)=>fM F (some (.p id b))
  |some (.rp a b)=>fM F (some (.rp a b))
  |some (.rx m b)=>fM F (some (.rx m b))
  |some (.pv id m b)=>fM F (some (.pv id m b))
  |some (.fn f d e)=>fM F (some (.fn f d e))
  |_=>none
def aaN(P:Program)(_call:Caller)(c:QQ)(F:aC)(d:BinOp)(t:TypeId)(x:Operand)(y:Operand):W5:=
 match c x,c y with
  |some a,some b=>fM F (lX (aaK P d t x y a b) λ_=>Yw P d t a b)
  |_,_=>none
def aaM(P:Program)(_call:Caller)(b:QQ)(F:aC)(c:UnOp)(x:Operand):W5:=
 match b x with
  |some a=>fUn P F c a
  |none=>none
def at6(P:Program)(_call:Caller)(b:QQ)(F:aC)(src:TypeId)(dst:TypeId)(x:Operand):W5:=
 match b x with
  |some a=>vU (lX (Am P src dst a F) λ_=>Yx P src dst a F)
  |none=>none
def at7(P:Program)(_call:Caller)(b:QQ)(F:aC)(t:TypeId)(x:Operand):W5:=
 match b x,Ku P t with
  |some a,some false=>fM F (some (.jM t a))
  |_,_=>none
def aua(_P:Program)(_call:Caller)(b:QQ)(F:aC)(f:FuncId)(first:Array Operand)(a:Array Operand):W5:=
 match DC b first.toList,DC b a.toList with
  |some c,some d=>fM F (some (.fn f c d))
  |_,_=>none
def aub(P:Program)(_call:Caller)(a:QQ)(F:aC)(t:TypeId)(r:Option Operand):W5:=
 match r with
  |none=>some (some (.mp F.next),F.new (.map []))
  |some h=>match a h,P.underlying t with
   |some v,some (.map _ _)=>if mapArg v then some (some (.mp F.next),F.new (.map []))else none
   |_,_=>none
def auc(P:Program)(_call:Caller)(a:QQ)(F:aC)(t:TypeId)(l:Operand)(c:Operand):W5:=
 match a l,a c with
  |some l,some c=>vU (lX (UM P t l c F) λ_=>YD P t l c F)
  |_,_=>none
def aud(P:Program)(_call:Caller)(a:QQ)(F:aC)(t:TypeId)(x:Operand)(lo:Option Operand)(hi:Option Operand):W5:=
 match a x,Ld a lo,Ld a hi with
  |some v,some lo,some hi=>lX (fM F (lX (Di P t F v lo hi) λ_=>TJ P t v lo hi)) λ_=>vU (YF P t F v lo hi)
  |_,_,_=>none
def aue(P:Program)(_call:Caller)(b:QQ)(F:aC)(t:TypeId)(x:Operand)(f:Nat):W5:=
 match b x with
  |some a=>fM F (lX (UJ P t a f) λ_=>Yy P t a f)
  |none=>none
def auf(P:Program)(_call:Caller)(b:QQ)(F:aC)(t:TypeId)(x:Operand)(f:Nat):W5:=
 match b x with
  |some a=>fM F (UH P t a f)
  |none=>none
def aug(P:Program)(_call:Caller)(b:QQ)(F:aC)(t:TypeId)(x:Operand)(c:Operand):W5:=
 match b x,b c with
  |some a,some k=>fM F (lX (Aq P t a k) λ_=>YA P F t a k)
  |_,_=>none
def aui(P:Program)(_call:Caller)(b:QQ)(F:aC)(t:TypeId)(x:Operand)(c:Operand):W5:=
 match b x,b c with
  |some a,some k=>fM F (lX (GL P t a k) λ_=>Yz P t a k)
  |_,_=>none
def auj(P:Program)(_call:Caller)(a:QQ)(F:aC)(t:TypeId)(m:Operand)(k:Operand)(ok:Bool):W5:=
 match a m,a k with
  |some m,some k=>fM F (lX (UL P t m k ok F) λ_=>YC P t m k ok F)
  |_,_=>none
def ahF(P:Program)(_call:Caller)(a:QQ)(F:aC)(t:TypeId)(m:Operand)(k:Operand)(v:Operand):W5:=
 match a m,a k,a v with
  |some m,some k,some v=>O0 (lX (UN P t m k v F) λ_=>YE P t m k v F)
  |_,_,_=>none
def auk(P:Program)(_call:Caller)(a:QQ)(F:aC)(t:TypeId)(x:Operand):W5:=
 match P.underlying t,a x with
  |some .string,some (.s s)=>some (some (.p F.next 0),F.new (.iter s 0))
  |some (.map _ _),some .rQ=>some (some (.p F.next 0),F.new (.iterM none))
  |some (.map _ _),some (.mp id)=>match F.get id with
   |some (.map _)=>some (some (.p F.next 0),F.new (.iterM (some id)))
   |_=>none
  |_,_=>none
def aul(_P:Program)(_call:Caller)(b:QQ)(F:aC)(it:Operand):W5:=
 match b it with
  |some a=>vU (UQ a F)
  |none=>none
def aum(_P:Program)(_call:Caller)(a:QQ)(F:aC)(it:Operand):W5:=
 match a it with
  |some (.p id 0)=>match F.get id with
   |some (.iterM none)=>some (some (.fK [.b false]),F)
   |some (.iterM (some m))=>match F.get m with
    |some (.map [])=>some (some (.fK [.b false]),F)
    |_=>none
   |_=>none
  |_=>none
def aun(P:Program)(_call:Caller)(b:QQ)(F:aC)(x:Operand)(t:TypeId)(ok:Bool):W5:=
 match b x with
  |some a=>fM F (UW P a t ok)
  |none=>none
def auo(_P:Program)(_call:Caller)(a:QQ)(F:aC)(x:Operand)(k:Nat):W5:=
 match a x with
  |some (.fK l)=>fM F l[k]?
  |_=>none
def aup(P:Program)(call:Caller)(e:QQ)(F:aC)(c:Call):W5:=
 match DC e c.args.toList with
  |some args=>
   match c.callee with
   |.builtin b=>bif ad4 b args then lX (LQ P b c.argTypes args F) λ_=>Jt P b c.argTypes args F else lX (Jt P b c.argTypes args F) λ_=>LQ P b c.argTypes args F
   |.value f=>match e f with
    |some (.fn f g a)=>vU (call f (g++args++a) F)
    |_=>none
   |.invoke r d=>match(e r).bind (UO P d F)with
    |some (f,x)=>vU (call f (x::args) F)
    |none=>none
  |none=>none
structure OpW where
 f:Program->Caller->(QQ)->aC->Option (Q4×aC)
def opF(o:Op):OpW:=
 Op.casesOn (motive:=λ_=>OpW) o
  (λx=>⟨λP call d F=>ahE P call d F x⟩)
  (λx=>⟨λP call d F=>ahE P call d F x⟩)
  (λc a b=>⟨λP call d F=>at1 P call d F c a b⟩)
  (λt=>⟨λP call d F=>auh P call d F t⟩)
  (λt x=>⟨λP call d F=>auq P call d F t x⟩)
  (λt e=>⟨λP call d F=>aur P call d F t e⟩)
  (λt len e=>⟨λP call d F=>aus P call d F t len e⟩)
  (λt m k v=>⟨λP call d F=>ahF P call d F t m k v⟩)
  (λt a=>⟨λP call d F=>aut P call d F t a⟩)
  (λt a x=>⟨λP call d F=>auu P call d F t a x⟩)
  (λ_=>⟨λ_P _call _ev _F=>none⟩)
  (λ_=>⟨λ_P _call _ev _F=>none⟩)
  (λx=>⟨λP call d F=>auv P call d F x⟩)
  (λh t x y _=>⟨λP call d F=>aaN P call d F h t x y⟩)
  (λh _ x=>⟨λP call d F=>aaM P call d F h x⟩)
  (λsrc i x=>⟨λP call d F=>at6 P call d F src i x⟩)
  (λ_ _=>⟨λ_P _call _ev _F=>none⟩)
  (λt x=>⟨λP call d F=>at7 P call d F t x⟩)
  (λfn first g=>⟨λP call d F=>match fn with|.func f=>aua P call d F f first g|_=>none⟩)
  (λt r=>⟨λP call d F=>aub P call d F t r⟩)
  (λ_ _=>⟨λ_P _call _ev _F=>none⟩)
  (λt l c=>⟨λP call d F=>auc P call d F t l c⟩)
  (λt x lo hi p=>⟨λP call d F=>match p with|none=>aud P call d F t x lo hi|some _=>none⟩)
  (λt x f=>⟨λP call d F=>aue P call d F t x f⟩)
  (λt x f=>⟨λP call d F=>auf P call d F t x f⟩)
  (λt x j=>⟨λP call d F=>aug P call d F t x j⟩)
  (λt x j=>⟨λP call d F=>aui P call d F t x j⟩)
  (λt m k ok=>⟨λP call d F=>auj P call d F t m k ok⟩)
  (λt m k v=>⟨λP call d F=>ahF P call d F t m k v⟩)
  (λ_ _ _=>⟨λ_P _call _ev _F=>none⟩)
  (λ_ _ _ _=>⟨λ_P _call _ev _F=>none⟩)
  (λt x=>⟨λP call d F=>auk P call d F t x⟩)
  (λn b=>⟨λP call d F=>bif b then aul P call d F n else aum P call d F n⟩)
  (λ_=>⟨λ_P _call _ev _F=>none⟩)
  (λx _ t ok=>⟨λP call d F=>aun P call d F x t ok⟩)
  (λx k=>⟨λP call d F=>auo P call d F x k⟩)
  (λc=>⟨λP call d F=>aup P call d F c⟩)
  (λ_=>⟨λ_P _call _ev _F=>none⟩)
  (λ_=>⟨λ_P _call _ev _F=>none⟩)
  (λ_=>⟨λ_P _call _ev _F=>none⟩)
  (λ_ _=>⟨λ_P _call _ev _F=>none⟩)
  (λ_ _ _=>⟨λ_P _call _ev _F=>none⟩)
  (λ_ _=>⟨λ_P _call _ev _F=>none⟩)
def BQ(P:Program)(call:Caller)(o:Oper)(a:QQ)(F:aC):W5:=(opF o.op).f P call a F
def auz(P:Program)(F:aC)(b:UnOp)(a:AV):fUn P F b a=match zi a with
 |some u=>fM F ((tu P (Op.unary b u)).bind (oH 4))
 |none=>fM F (Pv b a):=by
 cases b<;>first|rfl|skip
 cases a<;>rfl
def ES(P:Program)(call:Caller)(o:Oper)(c:QQ)(F:aC):BQ P call o c F=xI P call o c F:=by
 obtain⟨f,a,e,pos,d,guard⟩:=o;cases a with
 |binOp a t x y _=>
  show aaN P call c F a t x y=_
  simp only[aaN,atY,xI]
 |unOp a _ x=>
  show aaM P call c F a x=_
  simp only[aaM,auz,xI]
 |slice t x lo hi g=>cases g<;>rfl
 |makeFunc fn _ _=>cases fn<;>rfl
 |next h b=>cases b<;>rfl
 |_=>rfl
def Mc(o:Oper)(c:W6)(a:bM):Ys:=
 match o.guard with
 |none=>some true
 |some (j,b)=>
  match c[j]? with
  |some q=>match q.dst with
   |some d=>match dB (a.t.get d)with
    |some (.b x)=>some (x==b)
    |some (.fK _)=>some false
    |_=>none
   |none=>none
  |none=>none
def ZA(P:Program)(call:Caller)(b:W6)(i:Nat)(a:bM)(F:aC):Option (bM×aC):=
 match b[i]? with
 |none=>none
 |some o=>
  match Mc o b a with
  |none=>none
  |some false=>(a.put o.dst (some (.fK []))).map (·,F)
  |some true=>
   match BQ P call o a.eval F with
   |none=>none
   |some (v,c)=>(a.put o.dst v).map (·,c)
def Nk(P:Program)(call:Caller)(b:W6):Q2->bM->aC->Option (bM×aC)
 |[],a,F=>some (a,F)
 |i::rest,a,F=>
  match ZA P call b i a F with
  |some (c,F')=>Nk P call b rest c F'
  |none=>none
inductive fV where
 |normal
 |exit (id:Nat)
 |ret
abbrev Wd:=Option (fV×bM×aC)
def Dh(P:Program)(F:aC)(a:bM):List ResultVar->Option Q3
 |[]=>some []
 |.tmp t::rs=>match a.t.get t,Dh P F a rs with
  |some v,some r=>some (v::r)
  |_,_=>none
 |.cell t ty::rs=>match(a.t.get t).bind (yK P ty F),Dh P F a rs with
  |some v,some r=>some (v::r)
  |_,_=>none
def LW:Q3->AV
 |[v]=>v
 |l=>.fK l
def BJ:Q3->Nat->Tr AV->Tr AV
 |[],_,t=>t
 |v::vs,k,t=>BJ vs (k+1) (t.set k (some v))
abbrev CV:=W6->bM->aC->Option (bM×aC)
abbrev zK:=FuncId->Option (Q3->aC->Option (AV×aC))
def JJ(P:Program)(d:zK)(run:Code->bM->aC->Option (fV×bM×aC)):Caller:=λf args F=>
 match d f with
 |some g=>g args F
 |none=>
  match P.funcs[f]? with
  |none=>none
  |some fn=>match fn.body with
   |none=>none
   |some c=>
    match run c {t:=BJ args 0 .nil,n:=max args.length fn.ntmps,gn:=P.globals.size} F with
    |some (.normal,b,a)|some (.ret,b,a)=>(Dh P a b fn.results.toList).map λl=>(LW l,a)
    |_=>none
def wP(P:Program)(i:Caller->CV)(h:zK)(run:Code->bM->aC->Option (fV×bM×aC))(c:Code)(a:bM)(F:aC):Wd:=
 match c with
 |.skip=>some (.normal,a,F)
 |.region _ d false=>(Nk P (JJ P h run) d (List.range d.size) a F).map λ(a,F)=>(.normal,a,F)
 |.region _ d true=>(i (JJ P h run) d a F).map λ(a,F)=>(.normal,a,F)
 |.seq x y=>
  match run x a F with
  |some (.normal,e,f)=>run y e f
  |r=>r
 |.cond x y z=>
  match dB (a.eval x)with
  |some (.b t)=>run (if t then y else z) a F
  |_=>none
 |.block id b=>
  match run b a F with
  |some (.exit g,e,f)=>if g=id then some (.normal,e,f)else some (.exit g,e,f)
  |r=>r
 |.loop b=>
  match run b a F with
  |some (.normal,e,f)=>run (.loop b) e f
  |r=>r
 |.exit id=>some (.exit id,a,F)
 |.ret=>some (.ret,a,F)
 |_=>none
structure Bl where
 f:Program->(Caller->CV)->zK->(Code->bM->aC->Option (fV×bM×aC))->bM->aC->Option (fV×bM×aC)
def ao1:Bl:=⟨λ_ _ _ _ a F=>some (.normal,a,F)⟩
def aoT(b:W6)(d:Bool):Bl:=bif d then⟨λP e c run a F=>(e (JJ P c run) b a F).map λ(a,F)=>(.normal,a,F)⟩
 else⟨λP _ c run a F=>(Nk P (JJ P c run) b (List.range b.size) a F).map λ(a,F)=>(.normal,a,F)⟩
def ao0(x y:Code):Bl:=⟨λ_ _ _ run a F=>match run x a F with
    |some (.normal,b,c)=>run y b c
    |r=>r⟩
def aoQ(x:Operand)(y z:Code):Bl:=⟨λ_ _ _ run a F=>match dB (a.eval x)with
    |some (.b t)=>run (if t then y else z) a F
    |_=>none⟩
def aoP(id:Nat)(b:Code):Bl:=⟨λ_ _ _ run a F=>match run b a F with
    |some (.exit c,d,e)=>if c=id then some (.normal,d,e)else some (.exit c,d,e)
    |r=>r⟩
def aoS(b:Code):Bl:=⟨λ_ _ _ run a F=>match run b a F with
    |some (.normal,c,d)=>run (.loop b) c d
    |r=>r⟩
def aoR(id:Nat):Bl:=⟨λ_ _ _ _ a F=>some (.exit id,a,F)⟩
def aoU:Bl:=⟨λ_ _ _ _ a F=>some (.ret,a,F)⟩
def Qz:Bl:=⟨λ_ _ _ _ _ _=>none⟩
def codeF(c:Code):Bl:=
 Code.casesOn (motive:=λ_=>Bl) c
  ao1
  (λ_ a d=>aoT a d)
  (λx y=>ao0 x y)
  (λx y z=>aoQ x y z)
  (λid b=>aoP id b)
  (λb=>aoS b)
  (λ_ _ _ _=>Qz)
  (λid=>aoR id)
  (λ_=>Qz)
  (λ_=>Qz)
  (λ_=>Qz)
  aoU
  (λ_=>Qz)
def codeF_eq(P:Program)(b:Caller->CV)(e:zK)(run:Code->bM->aC->Option (fV×bM×aC))(c:Code)(a:bM)(F:aC):(codeF c).f P b e run a F=wP P b e run c a F:=by
 cases c with
 |region id f d=>cases d<;>rfl
 |_=>rfl
def GK(P:Program)(b:Caller->CV)(d:zK)(n:Nat):Code->bM->aC->Option (fV×bM×aC):=
 Nat.rec (motive:=λ_=>Code->bM->aC->Option (fV×bM×aC)) (λ_ _ _=>none) (λ_ run c a F=>(codeF c).f P b d run a F) n
def afu(P:Program)(b:Caller->CV)(d:zK)(c:Code)(a:bM)(F:aC):GK P b d 0 c a F=none:=rfl
def yI(P:Program)(b:Caller->CV)(d:zK)(n:Nat)(c:Code)(a:bM)(F:aC):GK P b d (n+1) c a F=wP P b d (GK P b d n) c a F:=codeF_eq P b d _ c a F
def aft(P:Program)(b:Caller->CV)(a:zK)(n:Nat):Caller:=JJ P a (GK P b a n)
end
noncomputable section
variable[aJ]
def Nh{H:Env}:∀{l:Q3}{vs:Q6},aG H l vs↔l.length=vs.length/\∀(k:Nat) a x,l[k]? =some a->vs[k]? =some x->VR H a x
 |[],vs=>by
  simp only[aG];constructor
  ·rintro rfl;simp
  ·rintro⟨h,_⟩;cases vs with
   |nil=>rfl
   |cons _ _=>simp at h
 |a::l,vs=>by
  simp only[aG];constructor
  ·rintro⟨x,xs,rfl,h1,g⟩
   have e:=(Nh (l:=l) (vs:=xs)).1 g;refine⟨by simp[e.1],?_⟩;intro k b y c d;cases k with
   |zero=>simp at c d;subst c;subst d;exact h1
   |succ k=>simp at c d;exact e.2 k b y c d
  ·rintro⟨f,h⟩
   cases vs with
   |nil=>simp at f
   |cons x xs=>refine⟨x,xs,rfl,h 0 a x aA aA,(Nh (l:=l) (vs:=xs)).2 ⟨by simpa using f,?_⟩⟩;intro k b y c d;exact h (k+1) b y (by simpa using c) (by simpa using d)
def aG.length{H:Env}{l:Q3}{vs:Q6}(h:aG H l vs):l.length=vs.length:=(Nh.1 h).1
def aG.at{H:Env}{l:Q3}{vs:Q6}(h:aG H l vs){k:Nat}{a:AV}(b:l[k]? =some a):∃x,vs[k]? =some x/\VR H a x:=by have c:=Nh.1 h;obtain⟨d,rfl⟩:=gy.1 b;have:k<vs.length:=ah;exact⟨vs[k],cO this,c.2 k _ _ b (cO this)⟩
def aG.of{H:Env}{l:Q3}{vs:Q6}(c:l.length=vs.length)(h:∀(k:Nat) a,l[k]? =some a->∃x,vs[k]? =some x/\VR H a x):aG H l vs:=
 Nh.2 ⟨c,λk a x d e=>by obtain⟨y,b,f⟩:=h k a d;rw[e]at b;cases b;exact f⟩
def aG.append{H:Env}{l c:Q3}{vs b:Q6}(h:aG H l vs)(d:aG H c b):aG H (l++c) (vs++b):=by
 induction l generalizing vs with
 |nil=>simp only[aG]at h;subst h;simpa using d
 |cons a l e=>simp only[aG]at h;obtain⟨x,f,rfl,g,i⟩:=h;exact⟨x,f++b,rfl,g,e i⟩
def aG.take{H:Env}{l:Q3}{vs:Q6}(h:aG H l vs)(n:Nat):aG H (l.take n) (vs.take n):=by
 induction n generalizing l vs with
 |zero=>simp[aG]
 |succ n b=>cases l with
  |nil=>simp only[aG]at h;subst h;simp[aG]
  |cons a l=>simp only[aG]at h;obtain⟨x,c,rfl,d,e⟩:=h;exact⟨x,c.take n,aA,d,b e⟩
def aG.drop{H:Env}{l:Q3}{vs:Q6}(h:aG H l vs)(n:Nat):aG H (l.drop n) (vs.drop n):=by
 induction n generalizing l vs with
 |zero=>simpa using h
 |succ n b=>cases l with
  |nil=>simp only[aG]at h;subst h;simp[aG]
  |cons a l=>simp only[aG]at h;obtain⟨x,d,rfl,e,c⟩:=h;simpa using b c
def aG.cons{H:Env}{a:AV}{l:Q3}{x:Value}{vs:Q6}(h:VR H a x)(b:aG H l vs):aG H (a::l) (x::vs):=⟨x,vs,rfl,h,b⟩
structure Env.le(H H':Env):Prop where
 pl:∀id q,H id=some q->H' id=some q
 ro:∀b o,H.ro b=some o->H'.ro b=some o
 gh:∀id,H.gh id=true->H'.gh id=true
def Env.le.refl(H:Env):H.le H:=⟨λ_ _ h=>h,λ_ _ h=>h,λ_ h=>h⟩
def Env.le.trans{a b c:Env}(h:a.le b)(d:b.le c):a.le c:=⟨λid q e=>d.pl id q (h.pl id q e),λb o f=>d.ro b o (h.ro b o f),λid e=>d.gh id (h.gh id e)⟩
def Env.has(H:Env)(id:Nat):Prop:=(∃q,H id=some q)\/H.gh id=true
def Env.has.mono{H H':Env}{id:Nat}(h:H.has id)(a:H.le H'):H'.has id:=h.elim (λ⟨q,b⟩=>.inl ⟨q,a.pl _ _ b⟩) λc=>.inr (a.gh _ c)
mutual
def GR.mono{ro ro':Qf}(h:∀b o,ro b=some o->ro' b=some o):∀(a:GV)(v:Value),GR ro a v->GR ro' a v
 |.b _,_,d=>by simpa only[GR]using d
 |.i _ _,_,d=>by simpa only[GR]using d
 |.s _,_,d=>by simpa only[GR]using d
 |.g l,_,d=>by simp only[GR]at d⊢;obtain⟨x,e,h1⟩:=d;exact⟨x,e,aV.mono h l x h1⟩
 |.l j,_,d=>by
  simp only[GR]at d⊢;rcases d with d|⟨k,g,c,i,m,e,n,h1,p,q⟩
  ·exact .inl d
  exact .inr ⟨k,g,c,i,m,e,n,aV.mono h j i h1,p,λr=>by obtain⟨s,f,t,u,w⟩:=q r;exact⟨s,f,t,h _ _ u,w⟩⟩
def aV.mono{ro ro':Qf}(h:∀b o,ro b=some o->ro' b=some o):∀(l:Q1)(vs:Q6),aV ro l vs->aV ro' l vs
 |[],_,c=>by simpa only[aV]using c
 |a::l,_,c=>by simp only[aV]at c⊢;obtain⟨x,xs,e,h1,d⟩:=c;exact⟨x,xs,e,GR.mono h a x h1,aV.mono h l xs d⟩
end
mutual
def VR.mono{H H':Env}(h:H.le H'):∀(a:AV)(v:Value),VR H a v->VR H' a v
 |.b _,_,b=>by simpa only[VR]using b
 |.i _ _,_,b=>by simpa only[VR]using b
 |.s _,_,b=>by simpa only[VR]using b
 |.kL,_,b=>by simpa only[VR]using b
 |.p _ _,_,b=>by simp only[VR]at b⊢;obtain⟨q,m,e⟩:=b;exact⟨q,h.pl _ _ m,e⟩
 |.iw,_,b=>by simpa only[VR]using b
 |.sl _ _ _ _,_,b=>by simp only[VR]at b⊢;obtain⟨q,m,e⟩:=b;exact⟨q,h.pl _ _ m,e⟩
 |.rQ,_,b=>by simpa only[VR]using b
 |.mp _,_,b=>by simp only[VR]at b⊢;obtain⟨q,m,e⟩:=b;exact⟨q,h.pl _ _ m,e⟩
 |.AU,_,b=>by simpa only[VR]using b
 |.fn _ B o,_,b=>by simp only[VR]at b⊢;obtain⟨z,A,e,d,f⟩:=b;exact⟨z,A,e,aG.mono h B z d,aG.mono h o A f⟩
 |.vS,_,b=>by simpa only[VR]using b
 |.jM _ a,_,b=>by simp only[VR]at b⊢;obtain⟨x,e,d⟩:=b;exact⟨x,e,VR.mono h a x d⟩
 |.agg l,_,b=>by simp only[VR]at b⊢;obtain⟨x,e,d⟩:=b;exact⟨x,e,aG.mono h l x d⟩
 |.fK l,_,b=>by simp only[VR]at b⊢;obtain⟨x,e,d⟩:=b;exact⟨x,e,aG.mono h l x d⟩
 |.z _ _ _,_,b=>by simpa only[VR]using b
 |.ro l,_,b=>by
  simp only[VR]at b⊢;rcases b with b|⟨s,w,c,r,D,e,E,d,f,n⟩
  ·exact .inl b
  refine .inr ?_;exact⟨s,w,c,r,D,e,E,aG.mono h l r d,f,λy=>by obtain⟨o,j,t,u,F⟩:=n y;exact⟨o,j,t,h.ro _ _ u,F⟩⟩
 |.rp a _,_,b=>by simp only[VR]at b⊢;obtain⟨s,base,o,j,t,x,d,f,n⟩:=b;exact⟨s,base,o,j,t,x,h.ro _ _ d,VR.mono h a x f,n⟩
 |.nd _,_,b=>by simp only[VR]at b⊢;obtain⟨g,d,f,n⟩:=b;exact⟨g,d,f,GR.mono h.ro _ _ n⟩
 |.rx _ _,_,b=>by simp only[VR]at b⊢;obtain⟨g,s,base,o,j,t,x,d,f,n,u⟩:=b;exact⟨g,s,base,o,j,t,x,d,h.ro _ _ f,GR.mono h.ro _ _ n,u⟩
 |.sv _ _,_,b=>by
  simp only[VR]at b⊢;obtain⟨r,d,⟨q,m,f⟩|⟨G,f⟩⟩:=b
  ·exact⟨r,d,.inl ⟨q,h.pl _ _ m,f⟩⟩
  ·exact⟨r,d,.inr ⟨h.gh _ G,f⟩⟩
 |.pv _ _ _,_,b=>by simp only[VR]at b⊢;obtain⟨q,k,i,m,f⟩:=b;exact⟨q,k,i,h.pl _ _ m,f⟩
 |.pd _ _,_,b=>by simp only[VR]at b⊢;obtain⟨r,p,d,f,n⟩:=b;exact⟨r,p,d,f,λy=>by obtain⟨q,m,u⟩:=n y;exact⟨q,h.pl _ _ m,u⟩⟩
def aG.mono{H H':Env}(h:H.le H'):∀(l:Q3)(vs:Q6),aG H l vs->aG H' l vs
 |[],_,b=>by simpa only[aG]using b
 |a::l,_,b=>by simp only[aG]at b⊢;obtain⟨x,xs,e,h1,c⟩:=b;exact⟨x,xs,e,VR.mono h a x h1,aG.mono h l xs c⟩
end
def OD{α β:Type}{f:α->Option β}:∀{l:List α}{r:List β},xg f l=some r->l.length=r.length/\∀(k:Nat) x,l[k]? =some x->∃y,r[k]? =some y/\f x=some y
 |[],r,h=>by simp[xg]at h;subst h;simp
 |x::xs,r,h=>by
  simp only[xg]at h;split at h
  ·cases h
  ·rename_i y d
   split at h
   ·cases h
   ·rename_i i b
    cases h;have c:=OD b;refine⟨by simp[c.1],λk z a=>?_⟩;cases k with
    |zero=>simp at a;subst a;exact⟨y,aA,d⟩
    |succ k=>simp at a;obtain⟨u,e,g⟩:=c.2 k z a;exact⟨u,by simpa using e,g⟩
def amZ{H:Env}:∀(n:Nat)(a:AV)(v:Value),a.toVal n=some v->VR H a v:=by
 intro n;induction n with
 |zero=>intro a v h;simp[AV.toVal]at h
 |succ n f=>
  intro a v h;have b:∀(l:Q3)(e:Q6),xg (AV.toVal n) l=some e->aG H l e:=λl e g=>by have:=OD g;exact aG.of this.1 λk a i=>by obtain⟨y,j,m⟩:=this.2 k a i;exact⟨y,j,f _ _ m⟩
  cases a<;>simp only[AV.toVal,bI,bD]at h<;>simp only[VR]<;>first|exact h.symm|(cases h;done)|skip
  case jM t a=>obtain⟨y,c,d⟩:=h;exact⟨_,d.symm,f _ _ c⟩
  case agg l=>obtain⟨y,c,d⟩:=h;exact⟨_,d.symm,b _ _ c⟩
  case fK l=>obtain⟨y,c,d⟩:=h;exact⟨_,d.symm,b _ _ c⟩
def am0{H:Env}:∀(n:Nat)(a:AV)(v x:Value),a.toVal n=some v->VR H a x->x=v:=by
 intro n;induction n with
 |zero=>intro a v x h;simp[AV.toVal]at h
 |succ n j=>
  intro a v x h e;have f:∀(l:Q3)(g i:Q6),xg (AV.toVal n) l=some g->aG H l i->i=g:=λl g i p m=>by
   have b:=OD p;have d:=Nh.1 m;apply Jh;intro k;by_cases o:k<l.length
   ·obtain⟨y,q,r⟩:=b.2 k _ (cO o);obtain⟨z,c,s⟩:=m.at (cO o);rw[q,c,j _ _ _ r s]
   ·rw[xB ah,xB ah]
  cases a<;>simp only[AV.toVal,bI,bD]at h<;>simp only[VR]at e<;>first|exact e.trans h|(cases h;done)|skip
  case jM t a=>obtain⟨y,b,d⟩:=h;obtain⟨z,rfl,c⟩:=e;rw[<-d,j _ _ _ b c]
  case agg l=>obtain⟨y,b,d⟩:=h;obtain⟨z,rfl,c⟩:=e;rw[<-d,f _ _ _ b c]
  case fK l=>obtain⟨y,b,d⟩:=h;obtain⟨z,rfl,c⟩:=e;rw[<-d,f _ _ _ b c]
def FI{H:Env}:∀(n:Nat)(v:Value)(a:AV),oH n v=some a->VR H a v:=by
 intro n;induction n with
 |zero=>intro v a h;simp[oH]at h
 |succ n f=>
  intro v a h;have c:∀(e:Q6)(l:Q3),xg (oH n) e=some l->aG H l e:=λe l j=>by
   have b:=OD j;refine aG.of b.1.symm λk a g=>?_;have d:k<e.length:=by have:=(gy.1 g).1;omega
   obtain⟨y,i,m⟩:=b.2 k _ (cO d);rw[g]at i;cases i;exact⟨_,cO d,f _ _ m⟩
  unfold oH at h;split at h;all_goals try (cases h;done)
  all_goals try (cases h;simp only[VR];done)
  ·simp only[bI]at h;obtain⟨y,b,rfl⟩:=h;simp only[VR];exact⟨_,rfl,f _ _ b⟩
  ·simp only[bI]at h;obtain⟨y,b,rfl⟩:=h;simp only[VR];exact⟨_,rfl,c _ _ b⟩
  ·simp only[bI]at h;obtain⟨y,b,rfl⟩:=h;simp only[VR];exact⟨_,rfl,c _ _ b⟩
def D6{α:Type}{P:Program}{s:Sem α}{a:α}(h:tu P s=some a)(w:World):s.run P w=.ok a w:=by
 induction s with
 |pure x=>simp[tu]at h;subst h;rfl
 |program k b=>exact b P h
 |mark m k b=>exact b h
 |_=>simp[tu]at h
omit [aJ] in
def Tr.ah8{α:Type}:∀p:List Bool,(Tr.nil:Tr α).wV p=none
 |[]=>rfl
 |b::p=>by
  show Tr.wV p (bif b then Tr.nil else Tr.nil)=none
  cases b<;>exact Tr.ah8 p
omit [aJ] in
@[simp] theorem Tr.get_nil{α:Type}(m:Nat):(Tr.nil:Tr α).get m=none:=Tr.ah8 _
omit [aJ] in
def Tr.aaZ{α:Type}(x:Option α):∀(p q:List Bool)(t:Tr α),(t.LP x p).wV q=if q=p then x else t.wV q
 |[],[],t=>rfl
 |[],c::q,t=>by rw[aj aA];rfl
 |b::p,[],t=>by rw[aj aA];cases b<;>rfl
 |b::p,c::q,t=>by
  have h1:(t.LP x (b::p))=bif b then .nd t.val (t.Fv.LP x p) t.FU else .nd t.val t.Fv (t.FU.LP x p):=rfl
  have a:∀u:Tr α,u.wV (c::q)=(bif c then u.Fv else u.FU).wV q:=λ_=>rfl;rw[h1,a,a];cases b<;>cases c
  ·show(t.FU.LP x p).wV q=_
   rw[Tr.aaZ x p q];simp
  ·show t.Fv.wV q=_
   simp
  ·show t.FU.wV q=_
   simp
  ·show(t.Fv.LP x p).wV q=_
   rw[Tr.aaZ x p q];simp
def YS:List Bool->Nat
 |[]=>0
 |b::p=>2*YS p+(if b then 1 else 2)
omit [aJ] in
def ana:∀(f n:Nat),n<2^f->YS (SG f n)=n
 |0,n,h=>by
  have:n=0:=by simpa using h
  subst this;rfl
 |f+1,n,h=>by
  have c:SG (f+1) n=bif Nat.beq n 0 then[]else Nat.beq ((n-1)%2) 0::SG f ((n-1)/2):=rfl
  rw[c];by_cases b:n=0
  ·subst b;rfl
  ·have d:Nat.beq n 0=false:=by cases n with|zero=>exact absurd rfl b|succ n=>rfl
   rw[d];show 2*YS (SG f ((n-1)/2))+_=n
   have e:2^(f+1)=2*2^f:=by rw[MX,Jm]
   rw[ana f _ ah];rcases aff (n-1)with a|a
   ·rw[a];show 2*((n-1)/2)+1=n;omega
   ·rw[a];show 2*((n-1)/2)+2=n;omega
omit [aJ] in
def am9(n:Nat):YS (path n)=n:=ana _ _ Nat.lt_log2_self
omit [aJ] in
def azW{n m:Nat}:path n=path m↔n=m:=⟨λh=>by rw[<-am9 n,h,am9],λh=>by rw[h]⟩
omit [aJ] in
def Tr.wX{α:Type}(t:Tr α)(n m:Nat)(x:Option α):(t.set n x).get m=if m=n then x else t.get m:=by
 unfold Tr.get Tr.set;rw[Tr.aaZ];by_cases h:m=n
 ·subst h;simp
 ·rw[aj h,aj (λe=>h (azW.1 e))]
omit [aJ] in
def aC.get_put(F:aC)(id a:Nat)(o:bP):(F.put id o).get a=if a=id then some o else F.get a:=Tr.wX _ _ _ _
omit [aJ] in
def aC.AL(F:aC)(id a:Nat):(F.kill id).get a=if a=id then none else F.get a:=Tr.wX _ _ _ _
omit [aJ] in
def aC.rD(F:aC)(a:Nat)(o:bP):(F.new o).get a=if a=F.next then some o else F.get a:=Tr.wX _ _ _ _
def bP.own:bP->Bool
 |.cells _ _ rw _=>rw
 |_=>true
structure vC(P:Program)(H:Env)(q:Place)(c:Q3)(et:TypeId)(rw opn:Bool)(cs:QR)(elem:TypeId)(fr:Nat×Nat):Prop where
 fits:q.ba+q.sz<=cs.size
 le:c.length<=q.sz
 shut:opn=false->c.length=q.sz
 cell:∀(k:Nat) a,c[k]? =some a->∃x,cs[q.ba+k]? =some x/\VR H a x
 free:rw=true->∀k,k<q.sz->¬(fr.1<=q.ba+k/\q.ba+k<fr.2)
 whole:et≠0->elem=et/\q.ba+q.sz=cs.size/\(opn=false->q.ba=0)
 room:opn=true->et≠0/\0<q.es/\sizeT P et=some q.es
def Ce(b:Wg)(a:GV):Prop:=match b with
 |some k=>∃n,a=.i k n
 |none=>∃s,a=.s s
def Pz(sz:W2)(b:GV):Prop:=match sz with
 |none=>b.scalar=true
 |some n=>∃a,b=.g a/\a.length=n/\a.all GV.scalar=true
def vF(ro:Qf)(d:Wg)(sz:W2):Q1->List MapEntry->Prop
 |[],c=>c=[]
 |x::xs,c=>∃a b m rest,x=.g [a,b]/\c=m::rest/\Ce d a/\Pz sz b/\GR ro a m.key/\GR ro b m.val/\vF ro d sz xs rest
def vF.mono{ro ro':Qf}(h:∀b o,ro b=some o->ro' b=some o){d:Wg}{sz:W2}:∀{xs:Q1}{c:List MapEntry},vF ro d sz xs c->vF ro' d sz xs c
 |[],c,r=>r
 |x::xs,c,r=>by obtain⟨a,b,m,rest,e,f,h1,g,i,j,h5⟩:=r;exact⟨a,b,m,rest,e,f,h1,g,GR.mono h _ _ i,GR.mono h _ _ j,vF.mono h h5⟩
def OR(P:Program)(H:Env)(q:Place)(w:World):bP->Prop
 |.cells c et rw opn=>∃cs elem h,w.heap[q.bl]? =some (.cells cs elem h)/\vC P H q c et rw opn cs elem h
 |.iter s pos=>w.heap[q.bl]? =some (.stringIter ⟨⟨s⟩⟩ pos)/\q.ba=0
 |.map es=>∃d a,w.heap[q.bl]? =some (.map d a)/\d.size=es.length/\∀(k:Nat) e,es[k]? =some e->∃m,d[k]? =some m/\VR H e.1 m.key/\VR H e.2 m.val
 |.vec n et f=>∃xs cs elem h i,aJ.val n=some (.l xs)/\w.heap[q.bl]? =some (.cells cs elem h)/\aV H.ro xs i/\(∀y∈i,y.cells.size=q.es)/\Ho cs q.ba (eX i)/\xs.length*q.es<=q.sz/\vC P H q [] et true true cs elem h/\(∀x∈xs,x.cells.all GV.scalar=true)/\(f=true->q.es<=q.sz)
 |.smap n j sz=>∃xs d a,aJ.val n=some (.l xs)/\w.heap[q.bl]? =some (.map d a)/\vF H.ro j sz xs d.toList
 |.pmap es=>(es.map (·.1)).Nodup/\∃d a g,w.heap[q.bl]? =some (.map d a)/\d.toList.Perm g/\g.length=es.length/\∀(k:Nat) e,es[k]? =some e->∃m,g[k]? =some m/\m.key=.string ⟨⟨e.1⟩⟩/\VR H e.2 m.val
 |.iterM none=>q.ba=0/\∃b last,w.heap[q.bl]? =some (.mapIter none b #[] last)
 |.iterM (some m)=>q.ba=0/\∃b last q',H m=some q'/\w.heap[q.bl]? =some (.mapIter (some q'.bl) b #[] last)
def vC.mono{P:Program}{H H':Env}(h:H.le H'){q:Place}{c:Q3}{et:TypeId}{rw opn:Bool}{cs:QR}{elem:TypeId}{b:Nat×Nat}
 (r:vC P H q c et rw opn cs elem b):vC P H' q c et rw opn cs elem b:=
 {r with cell:=λk a d=>by obtain⟨x,e,f⟩:=r.cell k a d;exact⟨x,e,VR.mono h _ _ f⟩}
def OR.mono{P:Program}{H H':Env}(h:H.le H'){q:Place}{w:World}{o:bP}(r:OR P H q w o):OR P H' q w o:=by
 cases o with
 |cells c B rw D=>obtain⟨p,b,t,d,g⟩:=r;exact⟨p,b,t,d,g.mono h⟩
 |iter s pos=>exact r
 |map es=>obtain⟨l,a,d,g,i⟩:=r;refine⟨l,a,d,g,λk e u=>?_⟩;obtain⟨m,v,x,y⟩:=i k e u;exact⟨m,v,VR.mono h _ _ x,VR.mono h _ _ y⟩
 |iterM m=>
  cases m with
  |none=>exact r
  |some m=>obtain⟨E,j,last,F,d,g⟩:=r;exact⟨E,j,last,F,h.pl _ _ d,g⟩
 |smap n S T=>obtain⟨z,l,a,d,g,i⟩:=r;exact⟨z,l,a,d,g,i.mono h.ro⟩
 |pmap es=>obtain⟨G,l,a,A,d,I,g,i⟩:=r;refine⟨G,l,a,A,d,I,g,λk e u=>?_⟩;obtain⟨m,v,x,y⟩:=i k e u;exact⟨m,v,x,VR.mono h _ _ y⟩
 |vec n B f=>obtain⟨z,p,b,t,L,d,g,i,M,N,O,Q,R⟩:=r;exact⟨z,p,b,t,L,d,g,aV.mono h.ro _ _ i,M,N,O,Q.mono h,R⟩
def OR.heap{P:Program}{H:Env}{q:Place}{w w':World}{o:bP}(h:w'.heap[q.bl]? =w.heap[q.bl]?)(r:OR P H q w o):OR P H q w' o:=by
 cases o with
 |iterM m=>cases m<;>simp only[OR]at r⊢<;>rw[h]<;>exact r
 |_=>simp only[OR]at r⊢;rw[h];exact r
def UE(a:AV)(x:Value):Prop:=a.toVal 4=some x\/∃k lo hi m,a=.z k lo hi/\x=.int k m/\lo<=m/\m<=hi
def Zr(c:Q3)(cs:QR):Prop:=(∀(k:Nat) a,c[k]? =some a->∃x,cs[k]? =some x/\UE a x)/\(c≠[]->cs.size=c.length)/\(c=[]->∃t q,cs[0]? =some (.iface t q))
def UE.vr{H:Env}{a:AV}{x:Value}(h:UE a x):VR H a x:=by
 rcases h with h|⟨k,lo,hi,m,rfl,rfl,b,c⟩
 ·exact amZ 4 a x h
 ·simp only[VR];exact⟨m,b,c,rfl⟩
def GI(H:Env)(g:Nat)(c:Q3):Prop:=∃b a d,H.ro g=some (.cells b a d)/\c.length<=b.size/\Zr c b
def GI.mono{H H':Env}{g:Nat}{c:Q3}(h:GI H g c)(b:H.le H'):GI H' g c:=by obtain⟨d,a,e,f,i⟩:=h;exact⟨d,a,e,b.ro _ _ f,i⟩
def Live(P:Program)(H:Env)(w:World)(id:Nat)(o:bP):Prop:=(∃q,H id=some q/\OR P H q w o)\/(H.gh id=true/\∃n a f,o=.vec n a f/\aJ.val n=some (.l []))
def Live.mono{P:Program}{H H':Env}(h:H.le H'){w:World}{id:Nat}{o:bP}(r:Live P H w id o):Live P H' w id o:=by
 rcases r with⟨q,a,b⟩|⟨c,d⟩
 ·exact .inl ⟨q,h.pl _ _ a,b.mono h⟩
 ·exact .inr ⟨h.gh _ c,d⟩
def Live.heap{P:Program}{H:Env}{w w':World}{id:Nat}{o:bP}(r:Live P H w id o)(h:∀q,H id=some q->OR P H q w o->w'.heap[q.bl]? =w.heap[q.bl]?):Live P H w' id o:=by
 rcases r with⟨q,a,b⟩|c
 ·exact .inl ⟨q,a,OR.heap (h q a b) b⟩
 ·exact .inr c
structure SR(P:Program)(H:Env)(F:aC)(w:World):Prop where
 oN:∀g,g<=P.globals.size->∃sz es,H g=some ⟨g,0,sz,es⟩
 dom:∀id q,H id=some q->id<F.next
 live:∀id o,F.get id=some o->Live P H w id o
 lq:∀id,H.gh id=true->H id=none/\id<F.next
 sep:∀id o id' o' q q',F.get id=some o->o.own=true->F.get id'=some o'->id≠id'->H id=some q->H id'=some q'->q.bl≠q'.bl
 jH:∀b o,H.ro b=some o->w.heap[b]? =some o
 ny:∀id o q,F.get id=some o->o.own=true->H id=some q->H.ro q.bl=none
 tabs:∀p∈aJ.tabs,GI H p.1 p.2
def bP.axk:bP->Bool
 |.vec _ _ _=>true
 |_=>false
def SR.obj{P:Program}{H:Env}{F:aC}{w:World}(h:SR P H F w):∀id o,F.get id=some o->o.axk=false->∃q,H id=some q/\OR P H q w o:=by
 intro id o a b;rcases h.live id o a with c|⟨_,n,d,f,rfl,_⟩
 ·exact c
 ·cases b
def SR.at{P:Program}{H:Env}{F:aC}{w:World}(h:SR P H F w){id:Nat}{o:bP}{q:Place}(c:F.get id=some o)(b:H id=some q):OR P H q w o:=by
 rcases h.live id o c with⟨f,a,d⟩|⟨e,_⟩
 ·rw[b]at a;cases a;exact d
 ·rw[(h.lq id e).1]at b;cases b
structure St(P:Program)(H:Env)(F:aC)(w:World)(H':Env)(F':aC)(w':World):Prop where
 ext:H.le H'
 rel:SR P H' F' w'
 size:w.heap.size<=w'.heap.size
 keep:∀bl,bl<w.heap.size->(∀id o q,F.get id=some o->o.own=true->F.lock<=id->H id=some q->q.bl≠bl)->w'.heap[bl]? =w.heap[bl]?
 own:∀id o q,F'.get id=some o->o.own=true->F.lock<=id->H' id=some q->w.heap.size<=q.bl\/∃fC o0 q0,F.get fC=some o0/\o0.own=true/\F.lock<=fC/\H fC=some q0/\q0.bl=q.bl
 os:w'.os=w.os
 tape:w'.tape=w.tape
 output:w'.output=w.output
 lock:F'.lock=F.lock
 next:F.next<=F'.next
 new:∀id,H'.has id->H.has id\/(F.next<=id/\id<F'.next)
 tC:∀b,H'.ro b≠none->H.ro b≠none\/w.heap.size<=b\/∃fC o0 q0,F.get fC=some o0/\o0.own=true/\F.lock<=fC/\H fC=some q0/\q0.bl=b
def St.refl{P:Program}{H:Env}{F:aC}{w:World}(h:SR P H F w):St P H F w H F w:=
 ⟨Env.le.refl _,h,dP _,λ_ _ _=>rfl,λid o q a b c d=>.inr ⟨id,o,q,a,b,c,d,rfl⟩,rfl,rfl,rfl,rfl,dP _,λ_ h=>.inl h,λ_ h=>.inl h⟩
def St.trans{P:Program}{H H1 x:Env}{F y z:aC}{w w1 A:World}(h:St P H F w H1 y w1)(k:St P H1 y w1 x z A):St P H F w x z A:=by
 refine⟨h.ext.trans k.ext,k.rel,kZ h.size k.size,?_,?_,k.os.trans h.os,k.tape.trans h.tape,k.output.trans h.output,k.lock.trans h.lock,kZ h.next k.next,?_,?_⟩;rotate_right
 ·intro b E;rcases k.tC b E with h1|h1|⟨i,o0,j,p,r,s,d1,t⟩
  ·exact h.tC b h1
  ·exact .inr (.inl (kZ h.size h1))
  ·rcases h.own i o0 j p r (h.lock▸s) d1 with g|⟨u,G,I,L,M,N,d2,O⟩
   ·right;left;omega
   ·exact .inr (.inr ⟨u,G,I,L,M,N,d2,O.trans t⟩)
 rotate_right
 ·intro id Q;rcases k.new id Q with h1|⟨h1,g⟩
  ·rcases h.new id h1 with f|⟨f,l⟩
   ·exact .inl f
   ·exact .inr ⟨f,zI l k.next⟩
  ·exact .inr ⟨Nat.le_trans h.next h1,g⟩
 ·intro B m n;rw[k.keep B (zI m h.size) ?_,h.keep B m n];intro id o q h1 g f l;rcases h.own id o q h1 g (h.lock▸f) l with D|⟨i,o0,j,a,b,c,d,e⟩
  ·omega
  ·rw[<-e];exact n i o0 j a b c d
 ·intro id o q h1 g f l;rcases k.own id o q h1 g (by rw[h.lock];exact f) l with D|⟨i,o0,j,a,b,c,d,e⟩
  ·exact .inl (kZ h.size D)
  ·rcases h.own i o0 j a b (h.lock▸c) d with S|⟨v,o1,R,p,r,s,d1,t⟩
   ·left;omega
   ·exact .inr ⟨v,o1,R,p,r,s,d1,t.trans e⟩
def SR.hasLt{P:Program}{H:Env}{F:aC}{w:World}(h:SR P H F w){id:Nat}(a:H.has id):id<F.next:=a.elim (λ⟨q,b⟩=>h.dom id q b) λc=>(h.lq id c).2
def SR.Rf{P:Program}{H:Env}{F:aC}{w:World}(h:SR P H F w){id:Nat}{o:bP}(a:F.get id=some o):H.has id:=(h.live id o a).elim (λ⟨q,b,_⟩=>.inl ⟨q,b⟩) λ⟨c,_⟩=>.inr c
def St.aza{P:Program}{H H':Env}{F F':aC}{w w':World}(h:St P H F w H' F' w'){id:Nat}{q:Place}(a:H' id=some q):H id=some q\/(F.next<=id/\id<F'.next):=by
 rcases h.new id (.inl ⟨q,a⟩)with(⟨p,b⟩|c)|d
 ·have:=h.ext.pl _ _ b;rw[a]at this;cases this;exact .inl b
 ·have:=(h.rel.lq id (h.ext.gh _ c)).1;rw[a]at this;cases this
 ·exact .inr d
def SR.drew{P:Program}{H:Env}{F:aC}{w:World}(h:SR P H F w):SR P H F {w with drawn:=w.drawn+1}:=
 ⟨h.oN,h.dom,λid o a=>(h.live id o a).heap (w:=w) (λ_ _ _=>rfl),h.lq,h.sep,h.jH,h.ny,h.tabs⟩
def St.drew{P:Program}{H:Env}{F:aC}{w:World}(h:SR P H F w):St P H F w H F {w with drawn:=w.drawn+1}:=
 ⟨Env.le.refl _,h.drew,dP _,λ_ _ _=>rfl,λid o q a b c d=>.inr ⟨id,o,q,a,b,c,d,rfl⟩,rfl,rfl,rfl,rfl,dP _,λ_ h=>.inl h,λ_ h=>.inl h⟩
def tY(bl off n:Nat):(⟨bl,off,none⟩:Addr).add n=⟨bl,off+n,none⟩:=by
 unfold Addr.add;split
 ·next h=>simp[h]
 ·rfl
def QC{w:World}{bl off:Nat}{cs:QR}{elem:TypeId}{a:Nat×Nat}(h:w.heap[bl]? =some (.cells cs elem a)):
 w.cell? ⟨bl,off,none⟩=cs[off]?:=by
 simp[World.cell?,h]
def ahX{w:World}{bl off:Nat}{cs:QR}{elem:TypeId}{a:Nat×Nat}(h:w.heap[bl]? =some (.cells cs elem a)):
 w.frozen? ⟨bl,off,none⟩=(decide (a.1<=off)&&decide (off<a.2)):=by
 simp[World.frozen?,h]
def run_loadCellsFrom{P:Program}{w:World}{bl off:Nat}{cs:QR}{elem:TypeId}{c:Nat×Nat}(h:w.heap[bl]? =some (.cells cs elem c)):
 ∀(n i:Nat)(a:QR),off+i+n<=cs.size->
  (loadCellsFrom ⟨bl,off,none⟩ i n a).run P w=.ok (a++(cs.toList.drop (off+i)).take n) w:=by
 intro n;induction n with
 |zero=>intro i a _;simp[loadCellsFrom]
 |succ n d=>
  intro i a e;have b:off+i<cs.size:=ah;have f:w.cell? ⟨bl,off+i,none⟩=some cs[off+i]:=by rw[QC h];simp[b]
  simp only[loadCellsFrom,aY,tY];have g:(load ⟨bl,off+i,none⟩).run P w=.ok cs[off+i] w:=by simp[load,Sem.run,f]
  rw[g];simp only[aX];rw[d (i+1) _ ah];congr 1;have:cs.toList.drop (off+i)=cs[off+i]::cs.toList.drop (off+(i+1)):=by rw[iY (by simpa using b)];simp[kE]
  rw[this];simp
def run_loadCells{P:Program}{w:World}{bl off n:Nat}{cs:QR}{elem:TypeId}{b:Nat×Nat}(h:w.heap[bl]? =some (.cells cs elem b))(a:off+n<=cs.size):
 (loadCells ⟨bl,off,none⟩ n).run P w=.ok ⟨(cs.toList.drop off).take n⟩ w:=by
 unfold loadCells;rw[run_loadCellsFrom h n 0 #[] (by simpa using a)];simp
def alS{P:Program}{w:World}{bl off:Nat}{cs:QR}{elem:TypeId}{a:Nat×Nat}{x:Value}(h:w.heap[bl]? =some (.cells cs elem a))(b:cs[off]? =some x):
 (load ⟨bl,off,none⟩).run P w=.ok x w:=by
 have c:w.cell? ⟨bl,off,none⟩=some x:=by rw[QC h,b]
 simp[load,Sem.run,c]
def setFrom(cs:QR)(off:Nat):Q6->Array Value
 |[]=>cs
 |v::vs=>setFrom (cs.setIfInBounds off v) (off+1) vs
def O6:∀(vs:Q6)(cs:QR)(off:Nat),(setFrom cs off vs).size=cs.size
 |[],_,_=>rfl
 |v::vs,cs,off=>by rw[setFrom,O6 vs];simp
def Yg:∀(vs:Q6)(cs:QR)(off k:Nat),off+vs.length<=cs.size->
 (setFrom cs off vs)[k]? =if off<=k/\k<off+vs.length then vs[k-off]? else cs[k]?
 |[],cs,off,k,h=>by simp[setFrom];omega
 |v::vs,cs,off,k,h=>by
  simp only[iE]at h;rw[setFrom,Yg vs _ _ _ (by simp;omega)];by_cases h1:off+1<=k/\k<off+1+vs.length
  ·rw[au h1,au ⟨ah,by simp;omega⟩];have:k-off=(k-(off+1))+1:=ah;rw[this];simp
  ·rw[aj h1];by_cases a:k=off
   ·subst a;rw[au ⟨Nat.le_refl _,aA⟩];have b:k<cs.size:=ah;simp[b]
   ·rw[aj (by simp only[iE];omega)];rw[Ep,aj (λe=>a e.symm)]
def pW(w:World)(bl:Nat)(o:Obj):World:={w with heap:=w.heap.setIfInBounds bl o}
def Eb{w:World}{bl:Nat}{o o':Obj}(h:w.heap[bl]? =some o):(pW w bl o').heap[bl]? =some o':=by have:bl<w.heap.size:=(tH.1 h).1;simp[pW,this]
def FW{w:World}{bl k:Nat}{o':Obj}(h:k≠bl):(pW w bl o').heap[k]? =w.heap[k]?:=by simp only[pW];rw[Ep,aj (λe=>h e.symm)]
def FX{w:World}{bl:Nat}{o':Obj}:(pW w bl o').heap.size=w.heap.size:=by simp[pW]
def aEv{w:World}{bl:Nat}{o o':Obj}:pW (pW w bl o) bl o'=pW w bl o':=by simp only[pW];congr 1;apply Uf;intro i;simp only[Ep,Array.size_setIfInBounds];split<;>rfl
def setCell_eq{w:World}{bl off:Nat}{cs:QR}{elem:TypeId}{a:Nat×Nat}(h:w.heap[bl]? =some (.cells cs elem a))(v:Value):
 w.setCell ⟨bl,off,none⟩ v=pW w bl (.cells (cs.setIfInBounds off v) elem a):=by
 unfold World.setCell pW;congr 1;apply Uf;intro i;rw[MB,Ep];by_cases e:bl=i
 ·subst e;have:bl<w.heap.size:=(tH.1 h).1;rw[au rfl,au rfl,au this,h];rfl
 ·rw[aj e,aj e]
def aEu{w:World}{bl:Nat}{o:Obj}(h:w.heap[bl]? =some o):pW w bl o=w:=by
 unfold pW;have:w.heap.setIfInBounds bl o=w.heap:=by
  apply Uf;intro i;rw[Ep];by_cases e:bl=i
  ·subst e;have:bl<w.heap.size:=(tH.1 h).1;rw[au rfl,au this,h]
  ·rw[aj e]
 rw[this]
def sW:Value->Bool
 |.agg _|.tuple _=>false
 |_=>true
def adF{P:Program}:∀(vs:Q6)(w:World)(bl off i:Nat)(cs:QR)(elem:TypeId)(a:Nat×Nat),
 w.heap[bl]? =some (.cells cs elem a)->off+i+vs.length<=cs.size->(∀v∈vs,sW v=true)->
 (∀k,off+i<=k->k<off+i+vs.length->¬(a.1<=k/\k<a.2))->
 (storeCells ⟨bl,off,none⟩ vs i).run P w=.ok () (pW w bl (.cells (setFrom cs (off+i) vs) elem a))
 |[],w,bl,off,i,cs,elem,a,h,_,_,_=>by simp[storeCells,setFrom,aEu h]
 |v::vs,w,bl,off,i,cs,elem,a,h,d,b,c=>by
  simp only[iE]at d c;have e:off+i<cs.size:=ah;have f:w.cell? ⟨bl,off+i,none⟩=some cs[off+i]:=by rw[QC h];simp[e]
  have g:w.frozen? ⟨bl,off+i,none⟩=false:=by rw[ahX h];have:=c (off+i) ah ah;simpa using this
  have j:=b v aA;have l:(store ⟨bl,off+i,none⟩ v).run P w=.ok () (pW w bl (.cells (cs.setIfInBounds (off+i) v) elem a)):=by rw[<-setCell_eq h];cases v<;>simp[sW]at j<;>simp[store,Sem.run,f,g]
  simp only[storeCells,aY,tY,l,aX];rw[adF vs _ bl off (i+1) (cs.setIfInBounds (off+i) v) elem a (Eb h) (by simp;omega) (λx m=>b x (by simp[m])) (λk n o=>c k ah ah)];rw[aEv];rfl
def Env.put(H:Env)(id:Nat)(q:Place):Env:=⟨λk=>if k=id then some q else H k,H.ro,H.gh⟩
def Env.IK{P:Program}{H:Env}{F:aC}{w:World}(h:SR P H F w)(q:Place):H.le (H.put F.next q):=by refine⟨λid p a=>?_,λ_ _ h=>h,λ_ h=>h⟩;have:=h.dom id p a;simp only[Env.put];rw[aj ah];exact a
def xP{w:World}{k:Nat}{o:Obj}(h:w.heap[k]? =some o):k<w.heap.size:=(tH.1 h).1
def OR.lt{P:Program}{H:Env}{q:Place}{w:World}{o:bP}(h:OR P H q w o):q.bl<w.heap.size:=by
 cases o with
 |cells c e rw g=>obtain⟨i,d,j,a,_⟩:=h;exact xP a
 |iter s pos=>exact xP h.1
 |map es=>obtain⟨k,b,a,_⟩:=h;exact xP a
 |iterM m=>cases m with
  |none=>obtain⟨_,_,_,a⟩:=h;exact xP a
  |some m=>obtain⟨_,_,_,_,_,a⟩:=h;exact xP a
 |vec n e f=>obtain⟨_,_,_,_,_,_,a,_⟩:=h;exact xP a
 |smap n l p=>obtain⟨_,_,_,_,a,_⟩:=h;exact xP a
 |pmap es=>obtain⟨_,_,_,_,a,_⟩:=h;exact xP a
def Env.adq{P:Program}{H:Env}{F:aC}{w:World}(h:SR P H F w)(q:Place){n:Nat}(c:F.next<n):∀id,(H.put F.next q).gh id=true->(H.put F.next q) id=none/\id<n:=by intro id a;obtain⟨b,d⟩:=h.lq id a;refine⟨?_,ah⟩;simp only[Env.put];rw[aj ah];exact b
def St.alloc{P:Program}{H:Env}{F:aC}{w:World}(h:SR P H F w)(o:bP)(u:Obj)(q:Place)(Q:q.bl=w.heap.size)
 (G:OR P (H.put F.next q) q {w with heap:=w.heap.push u} o):St P H F w (H.put F.next q) (F.new o) {w with heap:=w.heap.push u}:=by
 have c:=Env.IK h q;have i:∀k,k<w.heap.size->(w.heap.push u)[k]? =w.heap[k]?:=λk R=>by rw[Jd,aj ah]
 have D:∀b o,H.ro b=some o->b<w.heap.size:=λb o t=>xP (h.jH b o t);refine⟨c,⟨?_,?_,?_,Env.adq h q (Eu _),?_,λb o t=>?_,λid o1 p v I r=>?_,λp d=>(h.tabs p d).mono c⟩,aA,λbl x _=>i bl x,?_,rfl,rfl,rfl,rfl,Nat.le_succ _,?_,λ_ h=>.inl h⟩;rotate_right
 ·rintro id (⟨p,d⟩|y)
  ·simp only[Env.put]at d;split at d
   ·next e=>subst e;exact .inr ⟨Nat.le_refl _,Eu _⟩
   ·exact .inl (.inl ⟨p,d⟩)
  ·exact .inl (.inr y)
 ·intro g y;obtain⟨L,es,a⟩:=h.oN g y;exact⟨L,es,c.pl _ _ a⟩
 ·intro id p d;simp only[Env.put]at d;show id<F.next+1
  split at d
  ·omega
  ·have:=h.dom id p d;omega
 ·intro id M f;rw[aC.rD]at f;split at f
  ·next e=>cases f;subst e;exact .inl ⟨q,by simp[Env.put],G⟩
  ·exact((h.live id M f).heap (w:=w) (λp _ N=>i _ N.lt)).mono c
 ·intro id o1 z E p O a A n j l m;rw[aC.rD]at a n;simp only[Env.put]at l m;split at a<;>split at n
  ·omega
  ·next e s=>
   rw[au e]at l;rw[aj s]at m;cases l;have:=(h.at n m).lt;omega
  ·next e s=>
   rw[aj e]at l;rw[au s]at m;cases m;have:=(h.at a l).lt;omega
  ·next e s=>
   rw[aj e]at l;rw[aj s]at m;exact h.sep id o1 z E p O a A n j l m
 ·exact(i b (D b o t)).trans (h.jH b o t)
 ·rw[aC.rD]at v;simp only[Env.put]at r⊢;split at v
  ·next e=>
   rw[au e]at r;cases r;cases B:H.ro q.bl with
   |none=>rfl
   |some E=>have:=D _ _ B;omega
  ·next e=>rw[aj e]at r;exact h.ny id o1 p v I r
 ·intro id o1 p a A n j;rw[aC.rD]at a;simp only[Env.put]at j;split at a
  ·next e=>rw[au e]at j;cases j;left;omega
  ·next e=>rw[aj e]at j;exact .inr ⟨id,o1,p,a,A,n,j,rfl⟩
def St.write{P:Program}{H:Env}{F:aC}{w w':World}(h:SR P H F w){id:Nat}{o o':bP}{q:Place}(l:F.get id=some o)(m:o.own=true)(B:F.lock<=id)
 (n:H id=some q) (G:w'.heap.size=w.heap.size) (v:∀k,k≠q.bl->w'.heap[k]? =w.heap[k]?) (h1:w'.os=w.os) (I:w'.tape=w.tape) (L:w'.output=w.output)
 (M:OR P H q w' o'):St P H F w H (F.put id o') w':=by
 have r:=h.ny id o q l m n;refine⟨Env.le.refl _,⟨h.oN,h.dom,?_,h.lq,?_,λb j u=>?_,λi j p x N y=>?_,h.tabs⟩,ah,?_,?_,h1,I,L,rfl,dP _,λ_ h=>.inl h,λ_ h=>.inl h⟩
 ·intro s j t;rw[aC.get_put]at t;split at t
  ·next e=>cases t;subst e;exact .inl ⟨q,n,M⟩
  ·next e=>exact(h.live s j t).heap (w:=w) λp O _=>v _ (h.sep id o s j q p l m t (λQ=>e Q.symm) n O).symm
 ·intro g o1 i j p z a b c d e f;rw[aC.get_put]at a c;split at a<;>split at c
  ·omega
  ·next D E=>subst D;exact h.sep g o i j p z l m c d e f
  ·next D E=>subst E;exact h.sep g o1 i o p z a b l d e f
  ·exact h.sep g o1 i j p z a b c d e f
 ·rw[v b (λe=>by rw[e]at u;rw[r]at u;cases u)];exact h.jH b j u
 ·rw[aC.get_put]at x;split at x
  ·next e=>subst e;rw[n]at y;cases y;exact r
  ·exact h.ny i j p x N y
 ·intro bl R A;exact v bl (A id o q l m B n).symm
 ·intro g o1 p a b c d;rw[aC.get_put]at a;split at a
  ·next e=>subst e;exact .inr ⟨g,o,p,l,m,B,d,rfl⟩
  ·exact .inr ⟨g,o1,p,a,b,c,d,rfl⟩
def St.again{P:Program}{H:Env}{F:aC}{w w':World}(h:SR P H F w){id:Nat}{o o':bP}{q q':Place}(j:F.get id=some o)(x:o.own=true)(N:F.lock<=id)
 (t:H id=some q) (m:q'.bl=q.bl) (Q:w'.heap.size=w.heap.size) (E:∀k,k≠q.bl->w'.heap[k]? =w.heap[k]?) (h1:w'.os=w.os) (R:w'.tape=w.tape) (S:w'.output=w.output)
 (T:OR P (H.put F.next q') q' w' o'):St P H F w (H.put F.next q') ((F.kill id).new o') w':=by
 have n:=Env.IK h q';have U:id<F.next:=h.dom id q t;have get:∀k,((F.kill id).new o').get k=if k=F.next then some o' else if k=id then none else F.get k:=λk=>by rw[aC.rD,aC.AL];rfl
 have y:=h.ny id o q j x t;refine⟨n,⟨?_,?_,?_,Env.adq h q' (Eu _),?_,λb l G=>?_,λr l p z V A=>?_,λp i=>(h.tabs p i).mono n⟩,ah,?_,?_,h1,R,S,rfl,Nat.le_succ _,?_,λ_ h=>.inl h⟩;rotate_right
 ·rintro id (⟨p,i⟩|j)
  ·simp only[Env.put]at i;split at i
   ·next e=>subst e;exact .inr ⟨Nat.le_refl _,Eu _⟩
   ·exact .inl (.inl ⟨p,i⟩)
  ·exact .inl (.inr j)
 ·intro g j;obtain⟨W,es,h1⟩:=h.oN g j;exact⟨W,es,n.pl _ _ h1⟩
 ·intro k p i;simp only[Env.put]at i;show k<F.next+1
  split at i
  ·omega
  ·have:=h.dom k p i;omega
 ·intro k l u;rw[get]at u;split at u
  ·next e=>cases u;subst e;exact .inl ⟨q',by simp[Env.put],T⟩
  ·split at u
   ·cases u
   ·next e v=>exact((h.live k l u).heap (w:=w) λp i _=>E _ (h.sep id o k l q p j x u (λI=>v I.symm) t i).symm).mono n
 ·intro s o1 r l p O a b c d e f;rw[get]at a c;simp only[Env.put]at e f;split at a<;>split at c
  ·omega
  ·next B v=>
   split at c
   ·cases c
   ·next L=>
    rw[au B]at e;rw[aj v]at f;cases e;rw[m];exact h.sep id o r l q O j x c (λI=>L I.symm) t f
  ·next B v=>
   split at a
   ·cases a
   ·next L=>
    rw[aj B]at e;rw[au v]at f;cases f;rw[m];exact h.sep s o1 id o p q a b j L e t
  ·next B v=>
   split at a
   ·cases a
   ·split at c
    ·cases c
    ·rw[aj B]at e;rw[aj v]at f;exact h.sep s o1 r l p O a b c d e f
 ·rw[E b (λe=>by rw[e]at G;have D:H.ro q.bl=some l:=G;rw[y]at D;cases D)];exact h.jH b l G
 ·rw[get]at z;simp only[Env.put]at A⊢;split at z
  ·next e=>rw[au e]at A;cases A;rw[m];exact y
  ·next e=>
   rw[aj e]at A;split at z
   ·cases z
   ·exact h.ny r l p z V A
 ·intro bl X M;exact E bl (M id o q j x N t).symm
 ·intro s o1 p a b c d;rw[get]at a;simp only[Env.put]at d;split at a
  ·next e=>rw[au e]at d;cases d;exact .inr ⟨id,o,q,j,x,N,t,m.symm⟩
  ·next e=>
   rw[aj e]at d;split at a
   ·cases a
   ·exact .inr ⟨s,o1,p,a,b,c,d,rfl⟩
def SR.sub{P:Program}{H:Env}{F τ:aC}{w:World}(h:SR P H F w)(i:∀id o,τ.get id=some o->F.get id=some o)(k:F.next<=τ.next):SR P H τ w:=
 ⟨h.oN,λid q l=>zI (h.dom id q l) k,λid o m=>h.live id o (i id o m),λid g=>⟨(h.lq id g).1,zI (h.lq id g).2 k⟩,
  λid o j n q p a b c d e f=>h.sep id o j n q p (i _ _ a) b (i _ _ c) d e f,h.jH,λid o q a b c=>h.ny id o q (i _ _ a) b c,h.tabs⟩
def St.sub{P:Program}{H H':Env}{F F' τ:aC}{w w':World}(h:St P H F w H' F' w')(f:∀id o,τ.get id=some o->F'.get id=some o)(e:F'.next<=τ.next)(g:τ.lock=F'.lock):St P H F w H' τ w':=
 {h with rel:=h.rel.sub f e,own:=λid o q a b c d=>h.own id o q (f _ _ a) b c d,lock:=g.trans h.lock,next:=kZ h.next e,new:=λid i=>(h.new id i).imp (λx=>x) λ⟨a,b⟩=>⟨a,zI b e⟩}
