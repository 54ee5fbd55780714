/- Ground values, and the nodes by which a symbolic run names them. -/
import Derived.Calls
import Derived.Below
import Derived.Orders
import Derived.LoopN
import Derived.KernelRfl
import Derived.Laws.Strings
import Derived.WalkKit
set_option linter.all false
namespace Go.aP
abbrev K0:=List (Nat×FuncId)
abbrev XN:=Option Bool
abbrev Xs:=List (Int×Int×Int)
abbrev Ys:=Option Addr
abbrev WK:=List (Nat×Nat)
abbrev WF:=Option Value
abbrev Ww:=Array TypeId
abbrev Wm:=List (Nat×Bool)
abbrev Wk:=Option IntKind
abbrev W8:=List (Option FuncId)
abbrev W7:=Array Oper
abbrev W3:=Option Nat
abbrev Wa:=List (Nat×W3)
abbrev W2:=Array Value
abbrev QP:=Nat->Option Obj
abbrev Qt:=List Value
abbrev Q4:=List Nat
abbrev XX:=List (Q4×Nat)
abbrev Q2:=List UInt8
abbrev We:=List Q2
def ah{p:Prop}(h:p:=by omega):p:=h
def aA{p:Prop}(h:p:=by simp):p:=h
def aU{p:Prop}(h:p:=by decide):p:=h
noncomputable section
abbrev aj:=@if_neg
abbrev au:=@if_pos
abbrev aO:=@Bool.and_eq_true
abbrev aW:=@List.nil_append
abbrev aX:=@Result.andThen_ok
abbrev aY:=@Sem.run_bind
abbrev bf:=@Option.some.injEq
abbrev bg:=@List.cons_append
abbrev bG:=@Option.map_eq_some_iff
abbrev bJ:=@List.mem_cons
abbrev bP:=@Sem.run_pure
abbrev bQ:=@Nat.eq_of_beq_eq_true
abbrev bV:=@List.getElem?_eq_getElem
abbrev dK:=@Nat.le_refl
abbrev dM:=@List.length_append
abbrev dY:=@List.drop_zero
abbrev fP:=@List.length_drop
abbrev fV:=@List.getElem?_eq_some_iff
abbrev gG:=@List.length_map
abbrev gY:=@List.getElem_mem
abbrev gZ:=@Int.le_refl
abbrev ig:=@List.length_cons
abbrev iG:=@List.drop_eq_getElem_cons
abbrev iH:=@Option.map_some
abbrev iJ:=@Bool.false_eq_true
abbrev iO:=@List.getElem?_map
abbrev iP:=@List.mem_append
abbrev iU:=@List.map_cons
abbrev jm:=@List.pairwise_cons
abbrev jI:=@List.mem_singleton
abbrev jM:=@Nat.blt_eq
abbrev jT:=@List.eq_nil_of_length_eq_zero
abbrev jU:=@List.map_nil
abbrev jV:=@Nat.add_assoc
abbrev kF:=@List.length_nil
abbrev kP:=@List.flatMap_cons
abbrev kQ:=@List.getElem?_cons_zero
abbrev kR:=@Nat.le_trans
abbrev lQ:=@List.append_nil
abbrev lS:=@List.take_of_length_le
abbrev lZ:=@List.length_take
abbrev l9:=@Nat.zero_add
abbrev mW:=@List.getElem?_take
abbrev nP:=@List.map_append
abbrev oG:=@List.getElem?_append_left
abbrev oV:=@Bool.or_eq_true
abbrev oW:=@Nat.add_zero
abbrev pU:=@Prod.mk.injEq
abbrev qF:=@List.lt_irrefl
abbrev qG:=@Nat.xor_assoc
abbrev qZ:=@List.all_cons
abbrev rX:=@Array.getElem?_eq_some_iff
abbrev rY:=@Int.natCast_zero
abbrev rZ:=@List.drop_drop
abbrev su:=@List.mem_map
abbrev sD:=@List.mem_of_getElem?
abbrev sG:=@Nat.zero_le
abbrev sH:=@Option.getD_some
abbrev tY:=@Int.toNat_natCast
abbrev uf:=@List.drop_left
abbrev uh:=@List.getElem?_drop
abbrev uj:=@Nat.add_mul
abbrev um:=@Nat.le_of_ble_eq_true
abbrev uD:=@congrArg
abbrev uQ:=@Nat.mul_le_mul_right
abbrev uS:=@Option.getD_none
abbrev vS:=@BitVec.toNat_ofInt
abbrev vT:=@List.getElem?_cons_succ
abbrev wU:=@Bool.not_eq_true'
abbrev wV:=@List.getElem?_eq_none
abbrev xg:=@Sem.run_ite
abbrev xR:=@Array.getElem?_toList
abbrev xU:=@List.cons.injEq
abbrev xW:=@List.getElem?_append_right
abbrev xY:=@Nat.lt_or_ge
abbrev xZ:=@Option.bind_eq_some_iff
abbrev yR:=@Bool.eq_iff_iff
abbrev yT:=@Int.le_trans
abbrev yU:=@List.mem_cons_of_mem
abbrev yX:=@Nat.lt_of_lt_of_le
abbrev zN:=@List.getD_eq_getElem?_getD
abbrev Az:=@Array.getD_eq_getD_getElem?
abbrev AA:=@Bool.false_or
abbrev AL:=@List.lt_trans
abbrev AO:=@List.mem_range
abbrev AP:=@List.take_length
abbrev AQ:=@List.take_succ_cons
abbrev AU:=@Option.bind_some
abbrev BZ:=@List.mem_filter
abbrev Cb:=@List.not_lt
abbrev Ce:=@Nat.lt_succ_self
abbrev Ci:=@Nat.sub_self
abbrev Du:=@of_decide_eq_true
abbrev D8:=@Array.getElem?_eq_getElem
abbrev D9:=@Array.getElem?_setIfInBounds
abbrev Eb:=@List.mem_of_getLast?
abbrev Ec:=@List.take_add
abbrev Et:=@decide_eq_false
abbrev FY:=@Bool.true_and
abbrev F5:=@Int.fdiv_eq_ediv_of_nonneg
abbrev F6:=@Int.natCast_add
abbrev F7:=@List.getElem?_toArray
abbrev F8:=@List.length_singleton
abbrev GL:=@decide_eq_true
abbrev IB:=@Array.getElem?_push
abbrev IC:=@Array.length_toList
abbrev IG:=@Int.toNat_of_nonneg
abbrev IJ:=@List.drop_eq_nil_of_le
abbrev IK:=@List.ext_getElem?
abbrev IL:=@List.length_set
abbrev IQ:=@List.mem_nil_iff
abbrev IU:=@List.take_append_drop
abbrev IW:=@Nat.mul_comm
abbrev IX:=@Nat.one_mul
abbrev IY:=@Nat.sub_zero
abbrev IZ:=@Option.some.inj
abbrev LK:=@Array.getElem?_modify
abbrev LM:=@Bool.or_false
abbrev LW:=@List.drop_take
abbrev LX:=@List.getElem?_of_mem
abbrev LY:=@List.length_pos_iff
abbrev LZ:=@List.mem_of_mem_drop
abbrev L6:=@List.mem_of_mem_take
abbrev L8:=@Nat.add_comm
abbrev L9:=@Nat.le_of_eq
abbrev Mc:=@Nat.min_eq_left
abbrev Md:=@Nat.pow_succ
abbrev Me:=@Option.isNone_some
abbrev MB:=@Prod.exists
abbrev Pv:=@Array.ext'
abbrev Pz:=@List.mem_append_left
abbrev PD:=@List.mem_cons_self
abbrev PE:=@List.replicate_succ
abbrev PK:=@List.singleton_append
abbrev PN:=@Nat.mod_eq_of_lt
abbrev PO:=@Nat.mul_pos
abbrev PU:=@Prod.ext
abbrev TS:=@Array.ext_getElem?
abbrev TU:=@Bool.and_true
abbrev TV:=@Classical.em
abbrev Ub:=@List.filter_cons
abbrev Uc:=@List.le_antisymm
abbrev Ud:=@List.pairwise_iff_getElem
abbrev Ue:=@List.take_add_one
abbrev Uf:=@List.take_append_of_le_length
abbrev Ug:=@List.take_left
abbrev Uh:=@List.take_zero
abbrev Ui:=@Nat.add_sub_cancel'
abbrev Uj:=@Nat.eq_zero_or_pos
abbrev Uk:=@Nat.mul_div_cancel
abbrev Ul:=@Nat.pow_le_pow_right
abbrev Um:=@Nat.testBit_or
abbrev YX:=@Array.getElem?_append_left
abbrev YZ:=@Array.mapM_eq_mapM_toList
abbrev Y0:=@BitVec.toNat_and
abbrev Y1:=@Bool.false_and
abbrev Y2:=@Bool.not_eq_false
abbrev Y3:=@Bool.not_true
abbrev Y4:=@List.drop_append_of_le_length
abbrev Y5:=@List.drop_sublist
abbrev Y6:=@List.drop_succ_cons
abbrev Y7:=@List.findIdx?_cons
abbrev Y8:=@List.head?_cons
abbrev Y9:=@List.length_eq_one_iff
abbrev Za:=@List.length_filter_le
abbrev Zb:=@List.map_set
abbrev Zc:=@List.mem_append_right
abbrev Zd:=@List.mem_flatMap
abbrev Ze:=@List.mem_iff_getElem?
abbrev Zg:=@Nat.add_sub_cancel_left
abbrev Zh:=@Nat.mul_le_mul_left
abbrev Zi:=@Option.isSome_some
abbrev Zj:=@Sem.run_map
abbrev Zm:=@UInt8.toNat_inj
abbrev Zn:=@World.ownsRow_made
abbrev aef:=@Array.eq_empty_of_size_eq_zero
abbrev aeg:=@Array.map_empty
abbrev aeh:=@Array.size_range
abbrev aei:=@BitVec.toNat_not
abbrev aej:=@BitVec.toNat_or
abbrev aek:=@BitVec.xor_allOnes
abbrev aev:=@Int.lt_or_le
abbrev aew:=@Int.zero_add
abbrev aex:=@List.Perm.refl
abbrev aey:=@List.all_append
abbrev aez:=@List.all_nil
abbrev aeA:=@List.any_cons
abbrev aeB:=@List.any_eq_false
abbrev aeC:=@List.cons_lt_cons_iff
abbrev aeD:=@List.contains_iff_mem
abbrev aeE:=@List.drop_append
abbrev aeF:=@List.filter_append
abbrev aeG:=@List.filter_sublist
abbrev aeH:=@List.flatMap_append
abbrev aeI:=@List.getElem?_range
abbrev aeJ:=@List.getElem?_set
abbrev aeK:=@List.length_eq_zero_iff
abbrev aeL:=@List.mapM_cons
abbrev aeM:=@List.map_take
abbrev aeN:=@List.mem_or_eq_of_mem_set
abbrev aeO:=@List.mem_replicate
abbrev aeP:=@List.pairwise_append
abbrev aeQ:=@List.take_take
abbrev aeR:=@Nat.and_two_pow_sub_one_eq_mod
abbrev aeS:=@Nat.ble_eq_true_of_le
abbrev aeT:=@Nat.le_mul_of_pos_right
abbrev aeU:=@Nat.mod_two_eq_zero_or_one
abbrev aeV:=@Nat.mul_assoc
abbrev aeX:=@Option.isSome_none
abbrev aeY:=@Option.map_eq_none_iff
abbrev aeZ:=@Option.map_none
abbrev ae0:=@Option.toList_some
abbrev ae3:=@UInt8.toNat_ofNat'
abbrev ae6:=@World.cell?_of_block
abbrev am6:=@Array.getElem?_eq_none
abbrev am7:=@Classical.choose_spec
abbrev am8:=@List.concat_eq_append
abbrev am9:=@List.eq_nil_or_concat
abbrev ana:=@List.filter_cons_of_neg
abbrev anb:=@List.filter_cons_of_pos
abbrev ane:=@List.filter_eq_nil_iff
abbrev anf:=@List.mem_zipIdx_iff_getElem?
abbrev ang:=@List.perm_append_comm
abbrev ani:=@Nat.two_pow_add_eq_or_of_lt
abbrev anj:=@Option.isSome_iff_exists
abbrev ank:=@Option.ne_none_iff_exists'
inductive GV where
 |b (x:Bool)
 |i (k:IntKind) (n:Int)
 |s (x:Q2)
 |l (xs:List GV)
 |g (cs:List GV)
 deriving Inhabited
abbrev Wc:=Nat->Option GV
abbrev W5:=Option GV
abbrev Q3:=List GV
abbrev Wt:=Option Q3
def GV.cells:GV->List GV
 |.g cs=>cs
 |v=>[v]
def GV.scalar:GV->Bool
 |.g _=>false
 |_=>true
def GV.gu(size:Nat)(g:GV):Bool:=Nat.beq g.cells.length size&&g.cells.all GV.scalar
def dh(c:BinOp)(k:IntKind)(a b:Int):W5:=
 match c with
 |.add=>some (.i k (k.wrap (a+b)))
 |.sub=>some (.i k (k.wrap (a-b)))
 |.mul=>some (.i k (k.wrap (a*b)))
 |.quo=>if b=0 then none else some (.i k (k.wrap (a.tdiv b)))
 |.rem=>if b=0 then none else some (.i k (a.tmod b))
 |.and=>some (.i k (k.wrap (BitVec.ofInt k.bits a &&& BitVec.ofInt k.bits b).toNat))
 |.or=>some (.i k (k.wrap (BitVec.ofInt k.bits a |||BitVec.ofInt k.bits b).toNat))
 |.xor=>some (.i k (k.wrap (BitVec.ofInt k.bits a ^^^ BitVec.ofInt k.bits b).toNat))
 |.andNot=>some (.i k (k.wrap (BitVec.ofInt k.bits a &&& ~~~ BitVec.ofInt k.bits b).toNat))
 |.eql=>some (.b (a==b))
 |.neq=>some (.b (a !=b))
 |.lss=>some (.b (decide (a<b)))
 |.leq=>some (.b (decide (a<=b)))
 |.gtr=>some (.b (decide (a>b)))
 |.geq=>some (.b (decide (a>=b)))
 |_=>none
def kM(c:BinOp)(k:IntKind)(a b:Int):W5:=
 if b<0 then none else
 match c with
 |.shl=>some (.i k (k.wrap (a*2^(min b.toNat k.bits))))
 |.shr=>some (.i k (a.fdiv (2^(min b.toNat k.bits))))
 |_=>none
def yO(c:BinOp)(a b:Q2):W5:=
 match c with
 |.add=>if((a.length+b.length:Nat):Int)<=IntKind.i64.max then some (.s (a++b))else none
 |.eql=>some (.b (a==b))
 |.neq=>some (.b (!(a==b)))
 |.lss=>some (.b (Op.bytesLess a b))
 |.leq=>some (.b (Op.bytesLess a b ||a==b))
 |.gtr=>some (.b (!(Op.bytesLess a b ||a==b)))
 |.geq=>some (.b (!(Op.bytesLess a b)))
 |_=>none
def oM:Q4->List GV->List GV->Option Bool
 |[],[],[]=>some true
 |0::c,.i k a::l,.i d b::m=>if k=d then(oM c l m).map ((a==b)&&·)else none
 |1::c,.s a::l,.s b::m=>(oM c l m).map ((a==b)&&·)
 |2::c,.b a::l,.b b::m=>(oM c l m).map ((a==b)&&·)
 |_,_,_=>none
def iV(op:BinOp):GV->GV->Option GV
 |.i k a,.i c b=>match op with
  |.shl=>kM .shl k a b
  |.shr=>kM .shr k a b
  |op=>if k=c then dh op k a b else none
 |.s a,.s b=>yO op a b
 |_,_=>none
def U2(c:BinOp):GV->GV->Option GV
 |.b a,.b b=>match c with
  |.eql=>some (.b (a==b))
  |.neq=>some (.b (!(a==b)))
  |_=>none
 |_,_=>none
def MW(d:BinOp)(c:Q4):GV->GV->Option GV
 |.g a,.g b=>match d with
  |.eql=>(oM c a b).map .b
  |.neq=>(oM c a b).map λr=>.b (!r)
  |_=>none
 |_,_=>none
def Lp(b:UnOp):GV->Option GV
 |.b a=>match b with
  |.not=>some (.b (!a))
  |_=>none
 |.i k n=>match b with
  |.neg=>some (.i k (k.wrap (0-n)))
  |.xor=>dh .xor k (if k.signed then -1 else k.max) n
  |_=>none
 |_=>none
def oJ:Q3->Option Q2
 |[]=>some []
 |.i .u8 n::rest=>if 0<=n/\n<256 then(oJ rest).map (UInt8.ofNat n.toNat::·)else none
 |_::_=>none
def dH(s:Q2):Q3:=s.map λb=>.i .u8 b.toNat
inductive Nd where
 |arg
 |ci (k:IntKind) (n:Int)
 |cb (x:Bool)
 |cs (x:Q2)
 |bin (op:BinOp) (a b:Nat)
 |Gq (op:BinOp) (a b:Nat)
 |Gs (op:BinOp) (ks:Q4) (a b:Nat)
 |un (op:UnOp) (a:Nat)
 |mm (big:Bool) (a b:Nat)
 |conv (k:IntKind) (a:Nat)
 |len (a:Nat)
 |slen (a:Nat)
 |Ij (a i:Nat)
 |Ik (a lo hi:Nat)
 |ES (size a lo hi:Nat)
 |idx (a i:Nat)
 |at(size a i:Nat)
 |cell (off a:Nat)
 |mk (l:Q4)
 |ml (l:Q4)
 |app (size bytes a b:Nat)
 |upd (size off a i:Nat) (vs:Q4)
 |rep (size bytes z l c:Nat)
 |bytes (a:Nat)
 |str (a:Nat)
 |Ii (a:Nat)
 |same (a b:Nat)
 |BA (a j:Nat)
 |call (f:Nat) (l:Q4) (j:Nat)
 |HY (z m k:Nat)
 |H6 (m k:Nat)
 |Dq (m k v:Nat)
 deriving Inhabited
def qO:GV->GV->Bool
 |.i k a,.i c b=>Nat.beq (IntKind.casesOn k 0 1 2 3 4 5 6 7) (IntKind.casesOn c 0 1 2 3 4 5 6 7)&&a==b
 |.s a,.s b=>a==b
 |_,_=>false
def gy(k:GV):Q3->Option GV
 |[]=>none
 |.g [a,v]::l=>if qO k a=true then some v else gy k l
 |_::l=>gy k l
def kK(k v:GV):Q3->List GV
 |[]=>[.g [k,v]]
 |.g [a,u]::l=>if qO k a=true then .g [k,v]::l else .g [a,u]::kK k v l
 |x::l=>x::kK k v l
def valsOf(val:Wc):Q4->Option Q3
 |[]=>some []
 |n::l=>match val n,valsOf val l with
  |some g,some r=>some (g::r)
  |_,_=>none
def GV.int:GV->Option Int
 |.i _ n=>some n
 |_=>none
def putCells(cs:Q3)(off:Nat)(vs:Q3):Wt:=
 if off+vs.length<=cs.length then some (cs.take off++vs++cs.drop (off+vs.length))else none
def GV.put(x:GV)(off:Nat)(vs:Q3):W5:=
 match x with
 |.g a=>(putCells a off vs).map .g
 |_=>match off,vs with
  |0,[v]=>some v
  |_,_=>none
def Nd.den(I:Nat->List GV->Option Q3)(val:Wc):Nd->Option GV
 |.arg=>none
 |.ci k n=>some (.i k n)
 |.cb x=>some (.b x)
 |.cs x=>some (.s x)
 |.bin e a b=>match val a,val b with
  |some x,some y=>iV e x y
  |_,_=>none
 |.Gq e a b=>match val a,val b with
  |some x,some y=>U2 e x y
  |_,_=>none
 |.Gs e q a b=>match val a,val b with
  |some x,some y=>MW e q x y
  |_,_=>none
 |.un e a=>match val a with
  |some x=>Lp e x
  |none=>none
 |.mm p a b=>match val a,val b with
  |some (.i k x),some (.i s y)=>if k=s then some (.i k (if p then(if x<y then y else x)else(if y<x then y else x)))else none
  |_,_=>none
 |.conv k a=>match val a with
  |some (.i _ n)=>some (.i k (k.wrap n))
  |_=>none
 |.len a=>match val a with
  |some (.l xs)=>some (.i .i64 xs.length)
  |_=>none
 |.slen a=>match val a with
  |some (.s x)=>some (.i .i64 x.length)
  |_=>none
 |.Ij a i=>match val a,val i with
  |some (.s x),some (.i _ k)=>if 0<=k then match x[k.toNat]? with
   |some c=>some (.i .u8 c.toNat)
   |none=>none
   else none
  |_,_=>none
 |.Ik a lo hi=>match val a,val lo,val hi with
  |some (.s x),some (.i _ l),some (.i _ h)=>if 0<=l/\l<=h/\h<=x.length then some (.s ((x.take h.toNat).drop l.toNat))else none
  |_,_,_=>none
 |.ES size a lo hi=>match val a,val lo,val hi with
  |some (.l xs),some (.i _ l),some (.i _ h)=>if 0<=l/\l<=h/\h<=xs.length/\(xs.all λx=>Nat.beq x.cells.length size)=true then some (.l ((xs.take h.toNat).drop l.toNat))else none
  |_,_,_=>none
 |.idx a i=>match val a,val i with
  |some (.l xs),some (.i _ k)=>if 0<=k/\k<xs.length then some (.i .i64 k)else none
  |_,_=>none
 |.at size a i=>match val a,val i with
  |some (.l xs),some (.i _ k)=>if 0<=k then match xs[k.toNat]? with
   |some x=>if x.cells.length=size then some x else none
   |none=>none
   else none
  |_,_=>none
 |.cell off a=>match val a with
  |some g=>match g.cells[off]? with
   |some c=>if c.scalar then some c else none
   |none=>none
  |none=>none
 |.mk l=>match valsOf val l with
  |some gs=>if gs.all GV.scalar then some (.g gs)else none
  |none=>none
 |.ml l=>(valsOf val l).map .l
 |.app size t a b=>match val a,val b with
  |some (.l xs),some (.l o)=>if o.all (GV.gu size)=true/\2*(xs.length+o.length)*t<=2^48/\xs.length+o.length<=2^48 then some (.l (xs++o))else none
  |_,_=>none
 |.upd size off a i vs=>match val a,val i,valsOf val vs with
  |some (.l xs),some (.i _ k),some gs=>
   if 0<=k/\gs.all GV.scalar=true then match xs[k.toNat]? with
   |some x=>if x.cells.length=size then(x.put off gs).map λy=>.l (xs.set k.toNat y)else none
   |none=>none
   else none
  |_,_,_=>none
 |.rep size w z l c=>match val z,val l,val c with
  |some x,some (.i _ n),some (.i _ m)=>if 0<=n/\n<=m/\w*m<=2^48/\m<=2^60/\x.gu size=true then some (.l (List.replicate n.toNat x))else none
  |_,_,_=>none
 |.bytes a=>match val a with
  |some (.s x)=>some (.l (dH x))
  |_=>none
 |.str a=>match val a with
  |some (.l xs)=>if xs.length<=2^48 then(oJ xs).map .s else none
  |_=>none
 |.Ii a=>match val a with
  |some (.s x)=>some (.s x)
  |_=>none
 |.same a b=>match val a,val b with
  |some (.l xs),some (.l o)=>if o.length=xs.length then some (.l o)else none
  |_,_=>none
 |.BA a j=>match val a with
  |some (.i _ m)=>some (.b (decide (m=(j:Int))))
  |_=>none
 |.call f l j=>match valsOf val l with
  |some gs=>match I f gs with
   |some r=>r[j]?
   |none=>none
  |none=>none
 |.HY z m k=>match val z,val m,val k with
  |some d,some (.l xs),some g=>some ((gy g xs).getD d)
  |_,_,_=>none
 |.H6 m k=>match val m,val k with
  |some (.l xs),some g=>some (.b (gy g xs).isSome)
  |_,_=>none
 |.Dq m k v=>match val m,val k,val v with
  |some (.l xs),some g,some u=>some (.l (kK g u xs))
  |_,_,_=>none
def xI(o:BinOp):Nat:=BinOp.casesOn o 0 1 2 3 4 5 6 7 8 9 10 11 12 13 14 15 16
def ayp{o o':BinOp}(h:Nat.beq (xI o) (xI o')=true):o=o':=by cases o<;>cases o'<;>first|rfl|(simp[xI]at h)
def Lr(o:UnOp):Nat:=UnOp.casesOn o 0 1 2 3
def aE4{o o':UnOp}(h:Nat.beq (Lr o) (Lr o')=true):o=o':=by cases o<;>cases o'<;>first|rfl|(simp[Lr]at h)
def kc(k:IntKind):Nat:=IntKind.casesOn k 0 1 2 3 4 5 6 7
def WU{o o':IntKind}(h:Nat.beq (kc o) (kc o')=true):o=o':=by cases o<;>cases o'<;>first|rfl|(simp[kc]at h)
def zy:Q4->List Nat->Bool
 |[],[]=>true
 |a::l,b::m=>Nat.beq a b&&zy l m
 |_,_=>false
def abU:∀{l m:Q4},zy l m=true->l=m
 |[],[],_=>rfl
 |a::l,b::m,h=>by simp only[zy,aO]at h;rw[bQ h.1,abU h.2]
 |[],_::_,h=>by simp[zy]at h
 |_::_,[],h=>by simp[zy]at h
def CU:Q2->List UInt8->Bool
 |[],[]=>true
 |a::l,b::m=>Nat.beq a.toNat b.toNat&&CU l m
 |_,_=>false
def ZO:∀{l m:Q2},CU l m=true->l=m
 |[],[],_=>rfl
 |a::l,b::m,h=>by simp only[CU,aO]at h;rw[Zm.1 (bQ h.1),ZO h.2]
 |[],_::_,h=>by simp[CU]at h
 |_::_,[],h=>by simp[CU]at h
def JL(a b:Int):Bool:=match a,b with
 |.ofNat m,.ofNat n=>Nat.beq m n
 |.negSucc m,.negSucc n=>Nat.beq m n
 |_,_=>false
def aiE{a b:Int}(h:JL a b=true):a=b:=by
 unfold JL at h;split at h
 ·rw[bQ h]
 ·rw[bQ h]
 ·cases h
def Nd.eq(x y:Nd):Bool:=
 match x with
 |.arg=>false
 |.ci k n=>match y with|.ci t J=>Nat.beq (kc k) (kc t)&&JL n J|_=>false
 |.cb b=>match y with|.cb e=>(bif b then e else !e)|_=>false
 |.cs s=>match y with|.cs q=>CU s q|_=>false
 |.bin u a b=>match y with|.bin p d e=>Nat.beq a d&&Nat.beq b e&&Nat.beq (xI u) (xI p)|_=>false
 |.Gq u a b=>match y with|.Gq p d e=>Nat.beq a d&&Nat.beq b e&&Nat.beq (xI u) (xI p)|_=>false
 |.Gs u L a b=>match y with|.Gs p D d e=>Nat.beq a d&&Nat.beq b e&&Nat.beq (xI u) (xI p)&&zy L D|_=>false
 |.un u a=>match y with|.un p d=>Nat.beq a d&&Nat.beq (Lr u) (Lr p)|_=>false
 |.mm g a b=>match y with|.mm I d e=>Nat.beq a d&&Nat.beq b e&&(bif g then I else !I)|_=>false
 |.conv k a=>match y with|.conv t d=>Nat.beq a d&&Nat.beq (kc k) (kc t)|_=>false
 |.len a=>match y with|.len d=>Nat.beq a d|_=>false
 |.slen a=>match y with|.slen d=>Nat.beq a d|_=>false
 |.Ij a i=>match y with|.Ij d w=>Nat.beq a d&&Nat.beq i w|_=>false
 |.Ik a l h=>match y with|.Ik d r E=>Nat.beq a d&&Nat.beq l r&&Nat.beq h E|_=>false
 |.ES s a l h=>match y with|.ES q d r E=>Nat.beq s q&&Nat.beq a d&&Nat.beq l r&&Nat.beq h E|_=>false
 |.idx a i=>match y with|.idx d w=>Nat.beq a d&&Nat.beq i w|_=>false
 |.at s a i=>match y with|.at q d w=>Nat.beq s q&&Nat.beq a d&&Nat.beq i w|_=>false
 |.cell o a=>match y with|.cell F d=>Nat.beq o F&&Nat.beq a d|_=>false
 |.mk l=>match y with|.mk r=>zy l r|_=>false
 |.ml l=>match y with|.ml r=>zy l r|_=>false
 |.app z s a b=>match y with|.app A q d e=>Nat.beq z A&&Nat.beq s q&&Nat.beq a d&&Nat.beq b e|_=>false
 |.upd s o a i M=>match y with|.upd q F d w G=>Nat.beq s q&&Nat.beq o F&&Nat.beq a d&&Nat.beq i w&&zy M G|_=>false
 |.rep s b z l c=>match y with|.rep q e A r N=>Nat.beq s q&&Nat.beq b e&&Nat.beq z A&&Nat.beq l r&&Nat.beq c N|_=>false
 |.bytes a=>match y with|.bytes d=>Nat.beq a d|_=>false
 |.str a=>match y with|.str d=>Nat.beq a d|_=>false
 |.Ii a=>match y with|.Ii d=>Nat.beq a d|_=>false
 |.same a b=>match y with|.same d e=>Nat.beq a d&&Nat.beq b e|_=>false
 |.BA a j=>match y with|.BA d H=>Nat.beq a d&&Nat.beq j H|_=>false
 |.call f l j=>match y with|.call O r H=>Nat.beq f O&&Nat.beq j H&&zy l r|_=>false
 |.HY z m k=>match y with|.HY A B t=>Nat.beq z A&&Nat.beq m B&&Nat.beq k t|_=>false
 |.H6 m k=>match y with|.H6 B t=>Nat.beq m B&&Nat.beq k t|_=>false
 |.Dq m k v=>match y with|.Dq B t P=>Nat.beq m B&&Nat.beq k t&&Nat.beq v P|_=>false
def Xu{a b:Nat}:Nat.beq a b=true↔a=b:=⟨Nat.eq_of_beq_eq_true,λh=>by rw[h];exact Nat.beq_refl b⟩
def ax4{l m:Q4}:zy l m=true↔l=m:=⟨abU,λh=>by subst h;induction l with|nil=>rfl|cons a l b=>simp[zy,b]⟩
def afN{l m:Q2}:CU l m=true↔l=m:=⟨ZO,λh=>by subst h;induction l with|nil=>rfl|cons a l b=>simp[CU,b]⟩
def aiF{a b:Int}:JL a b=true↔a=b:=⟨aiE,λh=>by subst h;cases a<;>simp[JL]⟩
def aj6{o o':BinOp}:xI o=xI o'↔o=o':=⟨λh=>ayp (Xu.2 h),λh=>by rw[h]⟩
def aE3{o o':UnOp}:Lr o=Lr o'↔o=o':=⟨λh=>aE4 (Xu.2 h),λh=>by rw[h]⟩
def aws{o o':IntKind}:kc o=kc o'↔o=o':=⟨λh=>WU (Xu.2 h),λh=>by rw[h]⟩
def U1{a b:Bool}:(bif a then b else !b)=true↔a=b:=by cases a<;>cases b<;>simp
def Nd.eq_of{x y:Nd}(h:x.eq y=true):x=y/\x≠.arg:=by
 cases x<;>simp only[Nd.eq]at h
 case arg=>cases h
 all_goals
  split at h
  ·simp only[aO,Xu,ax4,afN,aiF,aj6,aE3,aws,U1]at h;simp_all
  ·cases h
class iD where
 nodes:List Nd
 dec:Wm
 ka:Nat:=0
def QU(x:Nd):List Nd->Nat->Option Nat
 |[],_=>none
 |y::l,k=>bif x.eq y then some k else QU x l (k+1)
def gq[iD](x:Nd):W3:=QU x iD.nodes 0
def QI(n:Nat):Wm->Option Bool
 |[]=>none
 |p::l=>bif Nat.beq n p.1 then some p.2 else QI n l
def aar[iD](n:Nat):XN:=QI n iD.dec
def ahq{x:Nd}:∀{l:List Nd}{k n:Nat},QU x l k=some n->k<=n/\l[n-k]? =some x/\x≠.arg
 |[],_,_,h=>by simp[QU]at h
 |y::l,k,n,h=>by
  simp only[QU]at h;cases a:x.eq y with
  |true=>rw[a]at h;simp only[cond_true,bf]at h;subst h;obtain⟨rfl,b⟩:=Nd.eq_of a;exact⟨Nat.le_refl _,aA,b⟩
  |false=>rw[a]at h;simp only[cond_false]at h;obtain⟨d,b,c⟩:=ahq h;refine⟨ah,?_,c⟩;have:n-k=(n-(k+1))+1:=ah;rw[this,vT];exact b
def atT[iD]{x:Nd}{n:Nat}(h:gq x=some n):iD.nodes[n]? =some x/\x≠.arg:=by obtain⟨_,a,b⟩:=ahq h;exact⟨by simpa using a,b⟩
def QJ{n:Nat}{b:Bool}:∀{l:Wm},QI n l=some b->(n,b)∈l
 |[],h=>by simp[QI]at h
 |p::l,h=>by
  simp only[QI]at h;cases a:Nat.beq n p.1 with
  |true=>
   rw[a]at h;simp only[cond_true,bf]at h;have:p=(n,b):=by rw[<-h,bQ a]
   rw[this];simp
  |false=>rw[a]at h;simp only[cond_false]at h;exact yU _ (QJ h)
noncomputable section
inductive AV where
 |b (x:Bool)
 |i (k:IntKind) (n:Int)
 |s (x:Q2)
 |kC
 |p (id off:Nat)
 |gX
 |sl (id off len:Nat) (cap:W3)
 |qQ
 |mp (id:Nat)
 |Ai
 |fn (f:FuncId) (first caps:List AV)
 |vF
 |jE (t:TypeId) (v:AV)
 |agg (l:List AV)
 |fG (l:List AV)
 |z (k:IntKind) (lo hi:Int)
 |ro (l:List AV)
 |rp (a:AV) (off:Nat)
 |nd (n:Nat)
 |rx (n off:Nat)
 |sv (id n:Nat)
 |pv (id n off:Nat)
 |pd (id n:Nat)
 deriving Inhabited
abbrev K1:=List (AV×AV)
abbrev Wr:=List (Nat×AV)
abbrev QR:=Operand->Option AV
abbrev Qf:=Option AV
abbrev Q6:=List AV
abbrev QQ:=List (Nat×Q6)
structure Place where
 bl:Nat
 ba:Nat
 sz:Nat
 es:Nat
structure Env where
 pl:Nat->Option Place
 ro:Nat->Option Obj
 gh:Nat->Bool
instance:CoeFun Env (λ_=>Nat->Option Place):=⟨Env.pl⟩
class aJ extends iD where
 tabs:QQ
 I:Nat->List GV->Option Q3
 val:Nat->Option GV
 tH:∀(n:Nat) nd,nodes[n]? =some nd->nd≠.arg->∃g,val n=some g/\nd.den I val=some g
 CX:∀(n:Nat)(b:Bool),(n,b)∈dec->val n=some (.b b)
def dR(xs:Qt):Qt:=xs.flatMap λx=>x.cells.toList
def Gx(cs:W2)(off:Nat)(l:Qt):Prop:=∀(k:Nat) x,l[k]? =some x->cs[off+k]? =some x
mutual
def GR(ro:QP):GV->Value->Prop
 |.b x,v=>v=.bool x
 |.i k n,v=>v=.int k n
 |.s x,v=>v=.string ⟨⟨x⟩⟩
 |.g cs,v=>∃vs,v=.agg ⟨vs⟩/\aT ro cs vs
 |.l xs,v=>(xs=[]/\∃p,v=.slice p 0 0)\/∃bl off c a sz,v=.slice (some ⟨bl,off,none⟩) xs.length c/\xs.length<=c/\aT ro xs a/\(∀x∈a,x.cells.size=sz)/\
   (xs≠[]->∃cs elem b,ro bl=some (.cells cs elem b)/\off+(dR a).length<=cs.size/\Gx cs off (dR a))
def aT(ro:QP):Q3->List Value->Prop
 |[],vs=>vs=[]
 |a::l,vs=>∃x xs,vs=x::xs/\GR ro a x/\aT ro l xs
end
variable[aJ]
mutual
def VR(F:Env):AV->Value->Prop
 |.b x,v=>v=.bool x
 |.i k n,v=>v=.int k n
 |.s x,v=>v=.string ⟨⟨x⟩⟩
 |.kC,v=>v=.pointer none
 |.p id off,v=>∃q,F id=some q/\v=.pointer (some ⟨q.bl,q.ba+off,none⟩)
 |.gX,v=>v=.slice none 0 0
 |.sl id off len cap,v=>∃q,F id=some q/\len<=cap.getD ((q.sz-off)/q.es)/\v=.slice (some ⟨q.bl,q.ba+off,none⟩) len (cap.getD ((q.sz-off)/q.es))
 |.qQ,v=>v=.map none
 |.mp id,v=>∃q,F id=some q/\v=.map (some q.bl)
 |.Ai,v=>v=.nilFunc
 |.fn f fi b,v=>∃e vs,v=.func (.func f) ⟨e⟩ ⟨vs⟩/\aG F fi e/\aG F b vs
 |.vF,v=>v=.nilIface
 |.jE t a,v=>∃x,v=.iface t x/\VR F a x
 |.agg l,v=>∃vs,v=.agg ⟨vs⟩/\aG F l vs
 |.fG l,v=>∃vs,v=.tuple ⟨vs⟩/\aG F l vs
 |.z k lo hi,v=>∃n:Int,lo<=n/\n<=hi/\v=.int k n
 |.ro l,v=>(l=[]/\∃p,v=.slice p 0 0)\/∃bl off c xs sz,v=.slice (some ⟨bl,off,none⟩) l.length c/\l.length<=c/\aG F l xs/\(∀x∈xs,x.cells.size=sz)/\
   (l≠[]->∃cs elem d,F.ro bl=some (.cells cs elem d)/\off+(dR xs).length<=cs.size/\Gx cs off (dR xs))
 |.rp a off,v=>∃bl base cs elem d x,F.ro bl=some (.cells cs elem d)/\VR F a x/\v=.pointer (some ⟨bl,base+off,none⟩)/\base+x.cells.size<=cs.size/\Gx cs base x.cells.toList
 |.nd n,v=>∃g,aJ.val n=some g/\g.scalar=true/\GR F.ro g v
 |.rx n off,v=>∃g bl base cs elem d x,aJ.val n=some g/\F.ro bl=some (.cells cs elem d)/\GR F.ro g x/\v=.pointer (some ⟨bl,base+off,none⟩)/\base+x.cells.size<=cs.size/\Gx cs base x.cells.toList
 |.sv id n,v=>∃xs,aJ.val n=some (.l xs)/\((∃q,F id=some q/\xs.length<=q.sz/q.es/\v=.slice (some ⟨q.bl,q.ba,none⟩) xs.length (q.sz/q.es))\/(F.gh id=true/\xs=[]/\v=.slice none 0 0))
 |.pv id n off,v=>∃q k i,F id=some q/\aJ.val n=some (.i k i)/\v=.pointer (some ⟨q.bl,q.ba+i.toNat*q.es+off,none⟩)
 |.pd id n,v=>∃xs p,aJ.val n=some (.l xs)/\v=.pointer p/\(xs≠[]->∃q,F id=some q/\p=some ⟨q.bl,q.ba,none⟩)
def aG(F:Env):Q6->List Value->Prop
 |[],vs=>vs=[]
 |a::l,vs=>∃x xs,vs=x::xs/\VR F a x/\aG F l xs
end
inductive Tr(α:Type) where
 |nil
 |nd (v:Option α) (l r:Tr α)
 deriving Inhabited
def Tr.val{α:Type}(t:Tr α):Option α:=Tr.casesOn t none (λv _ _=>v)
def Tr.EP{α:Type}(t:Tr α):Tr α:=Tr.casesOn t .nil (λ_ l _=>l)
def Tr.Fb{α:Type}(t:Tr α):Tr α:=Tr.casesOn t .nil (λ_ _ r=>r)
def Tr.wC{α:Type}(p:List Bool):Tr α->Option α:=List.rec (motive:=λ_=>Tr α->Option α) Tr.val (λb _ a t=>a (bif b then t.EP else t.Fb)) p
def Tr.KY{α:Type}(x:Option α)(p:List Bool):Tr α->Tr α:=List.rec (motive:=λ_=>Tr α->Tr α) (λt=>.nd x t.EP t.Fb)
 (λb _ a t=>bif b then .nd t.val (a t.EP) t.Fb else .nd t.val t.EP (a t.Fb)) p
def SE(f:Nat):Nat->List Bool:=Nat.rec (motive:=λ_=>Nat->List Bool) (λ_=>[]) (λ_ a n=>bif Nat.beq n 0 then[]else Nat.beq ((n-1)%2) 0::a ((n-1)/2)) f
def path(n:Nat):List Bool:=SE (Nat.log2 n+1) n
def Tr.get{α:Type}(t:Tr α)(n:Nat):Option α:=Tr.wC (path n) t
def Tr.set{α:Type}(t:Tr α)(n:Nat)(x:Option α):Tr α:=Tr.KY x (path n) t
inductive bM where
 |cells (c:Q6) (et:TypeId) (rw opn:Bool)
 |iter (s:Q2) (pos:Nat)
 |map (es:K1)
 |iterM (m:W3)
 |vec (n:Nat) (et:TypeId) (f:Bool)
 |smap (n:Nat) (kk:Wk) (sz:W3)
 |pmap (es:List (Q2×AV))
 deriving Inhabited
abbrev XS:=List (Nat×bM)
abbrev YY:=List (Nat×Option bM)
structure aC where
 h:Tr bM
 next:Nat
 lock:Nat
 deriving Inhabited
abbrev Wg:=Option (AV×aC)
abbrev W6:=Option (Qf×aC)
def aC.get(J:aC)(id:Nat):Option bM:=J.h.get id
def aC.put(J:aC)(id:Nat)(o:bM):aC:={J with h:=J.h.set id (some o)}
def aC.kill(J:aC)(id:Nat):aC:={J with h:=J.h.set id none}
def aC.new(J:aC)(o:bM):aC:={J with h:=J.h.set J.next (some o),next:=J.next+1}
def wK{α β:Type}(f:α->Option β):List α->Option (List β)
 |[]=>some []
 |x::xs=>match f x with
  |none=>none
  |some y=>match wK f xs with
   |none=>none
   |some a=>some (y::a)
def AV.toVal:Nat->AV->Option Value
 |0,_=>none
 |n+1,a=>
  match a with
  |.b x=>some (.bool x)
  |.i k x=>some (.int k x)
  |.s x=>some (.string ⟨⟨x⟩⟩)
  |.kC=>some (.pointer none)
  |.gX=>some (.slice none 0 0)
  |.qQ=>some (.map none)
  |.Ai=>some .nilFunc
  |.vF=>some .nilIface
  |.jE t v=>(AV.toVal n v).map (.iface t)
  |.agg l=>(wK (AV.toVal n) l).map λvs=>.agg ⟨vs⟩
  |.fG l=>(wK (AV.toVal n) l).map λvs=>.tuple ⟨vs⟩
  |_=>none
def nT:Nat->Value->Option AV
 |0,_=>none
 |n+1,v=>
  match v with
  |.bool x=>some (.b x)
  |.int k x=>some (.i k x)
  |.string s=>some (.s s.data.toList)
  |.pointer none=>some .kC
  |.slice none 0 0=>some .gX
  |.map none=>some .qQ
  |.nilFunc=>some .Ai
  |.nilIface=>some .vF
  |.iface t x=>(nT n x).map (.jE t)
  |.agg cs=>(wK (nT n) cs.toList).map .agg
  |.tuple cs=>(wK (nT n) cs.toList).map .fG
  |_=>none
def rV{α:Type}(P:Program):Sem α->Option α
 |.pure a=>some a
 |.program k=>rV P (k P)
 |.mark _ k=>rV P k
 |_=>none
structure bK where
 t:Tr AV
 n:Nat
 gn:Nat
def bK.eval(a:bK):Operand->Option AV
 |.tmp t=>a.t.get t
 |.const v=>nT 4 v
 |.global g=>if g<a.gn then some (.p g 0)else none
 |.func f=>some (.fn f [] [])
def bK.put(a:bK)(dst:Option Tmp)(v:Qf):Option bK:=
 match dst with
 |none=>some a
 |some d=>if d<a.n then some {a with t:=a.t.set d v}else none
def AV.cells:AV->List AV
 |.agg l=>l
 |v=>[v]
def AV.pF:AV->Bool
 |.agg _|.fG _=>false
 |_=>true
def Aw(P:Program)(t:TypeId):Option Q6:=
 match P.info? t with
 |some i=>match i.zero with
  |some z=>(nT 4 z).map AV.cells
  |none=>none
 |none=>none
def pG(P:Program)(t:TypeId):XN:=
 match P.underlying t with
 |some (.struct _)|some (.array _ _)=>some true
 |some _=>some false
 |none=>none
def sizeT(P:Program)(t:TypeId):W3:=(P.info? t).map (·.size)
def takeN(l:Q6)(off n:Nat):Option Q6:=
 let r:=(l.drop off).take n
 if r.length=n then some r else none
def BP(l:Q6)(off:Nat)(vs:Q6):Option Q6:=
 if off+vs.length<=l.length then some (l.take off++vs++l.drop (off+vs.length))else none
def Cj(a:Nat->Option (Nat×Nat))(cells:Q6):Wr->Option Q6
 |[]=>some cells
 |(i,v)::rest=>
  match a i with
  |none=>none
  |some (off,size)=>
   if v.cells.length=size then
    match BP cells off v.cells with
    |some cs=>Cj a cs rest
    |none=>none
   else none
def G5(a:QR):List (Nat×Operand)->Option Wr
 |[]=>some []
 |(i,x)::rest=>match a x,G5 a rest with
  |some v,some r=>some ((i,v)::r)
  |_,_=>none
def C9(a:QR):List Operand->Option Q6
 |[]=>some []
 |x::rest=>match a x,C9 a rest with
  |some v,some r=>some (v::r)
  |_,_=>none
def UF(P:Program)(t:TypeId)(cs:Q6)(off:Nat):Qf:=
 match pG P t with
 |some true=>match sizeT P t with
  |some n=>(takeN cs off n).map .agg
  |none=>none
 |some false=>cs[off]?
 |none=>none
def Ti(P:Program):List Field->Option WK
 |[]=>some []
 |f::fs=>match sizeT P f.type,Ti P fs with
  |some n,some r=>some ((f.offset,n)::r)
  |_,_=>none
def Uu(P:Program)(t:TypeId)(a:Wr):Qf:=
 match Aw P t,P.underlying t with
 |some zero,some (.struct b)=>
  match Ti P b.toList with
  |some c=>(Cj (λi=>c[i]?) zero a).map .agg
  |none=>none
 |some zero,some (.array _ e)=>
  match sizeT P e with
  |some d=>(Cj (λi=>some (i*d,d)) zero a).map .agg
  |none=>none
 |_,_=>none
def jS(n:Nat)(zero:Q6):Q6:=(List.replicate n zero).flatten
def yj(P:Program)(t:TypeId)(J:aC)(a:AV):Qf:=
 match a with
 |.p id b=>
  match J.get id with
  |some (.cells c _ _ _)=>
   match pG P t with
   |some true=>match sizeT P t with
    |some n=>(takeN c b n).map .agg
    |none=>none
   |some false=>c[b]?
   |none=>none
  |_=>none
 |.rp e b=>
  match pG P t with
  |some true=>match sizeT P t with
   |some n=>(takeN e.cells b n).map .agg
   |none=>none
  |some false=>e.cells[b]?
  |none=>none
 |_=>none
def Gi(P:Program)(t:TypeId)(J:aC)(a v:AV):Option aC:=
 match a with
 |.p id b=>
  match J.get id with
  |some (.cells c e true d)=>
   if J.lock<=id/\sizeT P t=some v.cells.length/\v.cells.all AV.pF then
    (BP c b v.cells).map λf=>J.put id (.cells f e true d)
   else none
  |_=>none
 |_=>none
def yh:AV->Option Int
 |.i _ n=>some n
 |_=>none
def Cm(len:Nat)(a:Nat->Bool):Qf->Option Nat
 |none=>some len
 |some v=>match yh v with
  |some h=>if 0<=h/\a h.toNat=true then some h.toNat else none
  |none=>none
def MH(h:Nat):Qf->Option Nat
 |none=>some 0
 |some v=>match yh v with
  |some l=>if 0<=l/\l<=h then some l.toNat else none
  |none=>none
def y8(len:Nat)(a:Nat->Bool)(low b:Qf):Option (Nat×Nat):=
 match Cm len a b with
 |none=>none
 |some h=>match MH h low with
  |none=>none
  |some l=>some (l,h)
def KF(a:QR):Option Operand->Option Qf
 |none=>some none
 |some x=>(a x).map some
end
noncomputable section
variable[iD]
def bytesOf:Q6->Option Q2
 |[]=>some []
 |.i .u8 n::rest=>if 0<=n/\n<256 then(bytesOf rest).map (UInt8.ofNat n.toNat::·)else none
 |_::_=>none
def yw(s:Q2):Q6:=s.map λb=>.i .u8 b.toNat
def yM(a:AV):WF:=a.toVal 4
def yC(P:Program)(t:TypeId):Option (TypeId×Nat×Nat×Q6):=
 match P.underlying t with
 |some (.slice e)=>match P.info? e,Aw P e with
  |some i,some z=>if e≠0/\z.length=i.size then some (e,i.size,i.bytes,z)else none
  |_,_=>none
 |_=>none
def Aq(J:aC)(size:Nat):AV->Option (Nat×Q6)
 |.gX=>some (0,[])
 |.sl id off len _=>match J.get id with
  |some (.cells c _ _ _)=>(takeN c off (len*size)).map λr=>(len,r)
  |_=>none
 |.s x=>if size=1 then some (x.length,yw x)else none
 |.ro l=>if l.all (λa=>a.cells.length==size)=true then some (l.length,l.flatMap AV.cells)else none
 |_=>none
def Ho(P:Program)(t:TypeId):Bool:=
 match P.underlying t with
 |some (.slice _)|some .string=>true
 |_=>false
def sliceLen:AV->Nat
 |.sl _ _ n _=>n
 |_=>0
def ru(e size bytes:Nat)(s:AV)(n:Nat)(new:Q6)(J:aC):Wg:=
 if size=0\/new.all AV.pF=false\/¬(2*(sliceLen s+n)*bytes<=2^48/\sliceLen s+n<=2^48)then none else
 match s with
 |.gX=>if n=0 then some (.gX,J)else some (.sl J.next 0 n none,J.new (.cells new e true true))
 |.sl id a len (some d)=>
  if len+n<=d then
   if n=0 then some (s,J)else
   match J.get id with
   |some (.cells c f true g)=>
    if J.lock<=id then
     (BP c (a+len*size) new).map λh=>(.sl id a (len+n) (some d),J.put id (.cells h f true g))
    else none
   |_=>none
  else
   match J.get id with
   |some (.cells c _ _ _)=>(takeN c a (len*size)).map λb=>(.sl J.next 0 (len+n) none,J.new (.cells (b++new) e true true))
   |_=>none
 |.sl id a len none=>
  if n=0 then some (s,J)
  else if J.lock<=id then
   match J.get id with
   |some (.cells c f true true)=>if f=e then(takeN c a (len*size)).map λb=>(.sl J.next 0 (len+n) none,(J.kill id).new (.cells (b++new) e true true))else none
   |_=>none
  else none
 |.ro l=>if n=0 then some (.ro l,J)else none
 |_=>none
def Zo(P:Program)(a:Ww)(s x:AV)(J:aC):Wg:=
 match a.toList with
 |[t,c]=>
  match yC P t,Ho P c with
  |some (e,b,bytes,_),true=>
   match Aq J b x with
   |some (n,new)=>ru e b bytes s n new J
   |none=>none
  |_,_=>none
 |_=>none
def Uy(P:Program)(J:aC)(t:TypeId)(x:AV):Qf:=
 match P.underlying t,x with
 |some .string,.s s=>some (.i .i64 s.length)
 |some (.slice _),.gX=>some (.i .i64 0)
 |some (.slice _),.sl _ _ n _=>some (.i .i64 n)
 |some (.slice _),.ro l=>some (.i .i64 l.length)
 |some (.map _ _),.qQ=>some (.i .i64 0)
 |some (.map _ _),.mp id=>match J.get id with
  |some (.map es)=>some (.i .i64 es.length)
  |_=>none
 |some (.array n _),_=>some (.i .i64 n)
 |_,_=>none
def UA(P:Program)(t:TypeId)(len cap:AV)(J:aC):Wg:=
 match yC P t,yh len,yh cap with
 |some (e,a,bytes,z),some l,some c=>
  if 0<=l/\l<=c/\bytes*c<=2^48/\c<=2^60 then
   some (.sl J.next 0 l.toNat (some c.toNat),J.new (.cells (if a=0 then[]else jS c.toNat z) e true false))
  else none
 |_,_,_=>none
def UH(size:Nat)(es:Q6)(l h:Nat):Qf:=
 if h=l then some (.ro [])else
 match es[0]? with
 |some a=>if a.cells.length=size then some (.ro ((es.take h).drop l))else none
 |none=>none
def CO(P:Program)(t:TypeId)(J:aC)(x:AV)(lo hi:Qf):Qf:=
 match P.underlying t,x with
 |some .string,.s s=>(y8 s.length (λh=>Nat.ble h s.length) lo hi).map λ(l,h)=>.s ((s.take h).drop l)
 |some (.slice e),.sl id b len d=>
  match sizeT P e,d with
  |some a,some c=>
   (y8 len (λh=>Nat.ble h c) lo hi).bind λ(l,h)=>
    if c=l then some (.sl id b (h-l) (some 0))else some (.sl id (b+l*a) (h-l) (some (c-l)))
  |some a,none=>
   match J.get id with
   |some (.cells _ f _ true)=>if f=e then
     (y8 len (λh=>Nat.ble h len) lo hi).bind λ(l,h)=>
      if l<len then some (.sl id (b+l*a) (h-l) none)else if l=0 then some (.sl id b (h-l) none)else if h=l then some (.ro [])else none
    else none
   |_=>none
  |none,_=>none
 |some (.slice e),.gX=>match sizeT P e with
  |some _=>(y8 0 (λh=>Nat.ble h 0) lo hi).map λ_=>.gX
  |none=>none
 |some (.slice e),.ro es=>match sizeT P e with
  |some a=>(y8 es.length (λh=>Nat.ble h es.length) lo hi).bind λ(l,h)=>UH a es l h
  |none=>none
 |some (.array n e),.p id b=>match sizeT P e with
  |some a=>(y8 n (λh=>Nat.ble h n) lo hi).map λ(l,h)=>
    if n=l then .sl id b (h-l) (some 0)else .sl id (b+l*a) (h-l) (some (n-l))
  |none=>none
 |_,_=>none
def Ux(P:Program)(t:TypeId)(x:AV)(f:Nat):Qf:=
 match P.underlying t,x with
 |some (.struct b),.p id c=>
  match b[f]? with
  |some d=>match sizeT P d.type with
   |some n=>if n=0 then none else some (.p id (c+d.offset))
   |none=>none
  |none=>none
 |some (.struct b),.rp a c=>
  match b[f]? with
  |some d=>match sizeT P d.type with
   |some n=>if n=0 then none else some (.rp a (c+d.offset))
   |none=>none
  |none=>none
 |_,_=>none
def Uw(P:Program)(t:TypeId)(x:AV)(f:Nat):Qf:=
 match P.underlying t,x with
 |some (.struct a),.agg c=>
  match a[f]? with
  |some b=>UF P b.type c b.offset
  |none=>none
 |_,_=>none
def zT(P:Program)(t:TypeId)(x d:AV):Qf:=
 match P.underlying t,x,yh d with
 |some (.slice e),.sl id c len _,some k=>
  match sizeT P e with
  |some b=>if 0<=k/\k<len then some (.p id (c+k.toNat*b))else none
  |none=>none
 |some (.array len e),.p id c,some k=>
  match sizeT P e with
  |some b=>if 0<=k/\k<len then some (.p id (c+k.toNat*b))else none
  |none=>none
 |some (.slice e),.ro l,some k=>
  match sizeT P e with
  |some b=>if 0<=k then match l[k.toNat]? with
   |some a=>if a.cells.length=b then some (.rp a 0)else none
   |none=>none
   else none
  |none=>none
 |some (.array len e),.rp a c,some k=>
  match sizeT P e with
  |some b=>if 0<=k/\k<len then some (.rp a (c+k.toNat*b))else none
  |none=>none
 |_,_,_=>none
def Gh(P:Program)(t:TypeId)(x b:AV):Qf:=
 match P.underlying t,x,yh b with
 |some .string,.s s,some k=>
  if 0<=k then match s[k.toNat]? with
   |some c=>some (.i .u8 c.toNat)
   |none=>none
  else none
 |some (.array len e),.agg d,some k=>
  match sizeT P e with
  |some a=>if 0<=k/\k<len then UF P e d (k.toNat*a)else none
  |none=>none
 |_,_,_=>none
def zQ(P:Program)(src dst:TypeId)(x:AV)(J:aC):Wg:=
 match P.underlying src,P.underlying dst,x with
 |some _,some (.int k),.i _ n=>some (.i k (k.wrap n),J)
 |some .string,some .string,.s s=>some (.s s,J)
 |some .string,some (.slice e),.s s=>
  match P.underlying e with
  |some (.int .u8)=>if e≠0/\sizeT P e=some 1 then some (.sl J.next 0 s.length none,J.new (.cells (yw s) e true true))else none
  |_=>none
 |some (.slice e),some .string,.gX=>
  match P.underlying e with
  |some (.int .u8)=>some (.s [],J)
  |_=>none
 |some (.slice e),some .string,.sl id a len _=>
  match P.underlying e,J.get id with
  |some (.int .u8),some (.cells c _ _ _)=>match takeN c a len with
   |some r=>(bytesOf r).map λb=>(.s b,J)
   |none=>none
  |_,_=>none
 |some (.slice e),some .string,.ro l=>
  match P.underlying e with
  |some (.int .u8)=>(bytesOf l).map λb=>(.s b,J)
  |_=>none
 |some (.pointer t),some .unsafePointer,.p id a=>
  match J.get id,sizeT P t with
  |some (.cells c d _ false),some n=>if d≠0/\a<c.length/\n≠0 then some (.p id a,J)else none
  |_,_=>none
 |some .unsafePointer,some (.pointer u),.p id a=>
  match J.get id,sizeT P u with
  |some (.cells c d _ false),some _=>if d≠0/\liesAt P P.depth d (c.length/P.cellsOf d) a u 1=true then some (.p id a,J)else none
  |_,_=>none
 |_,_,_=>none
def Vp(e:BinOp)(a b c d:Int):Qf:=
 match e with
 |.lss=>if b<c then some (.b true)else if d<=a then some (.b false)else none
 |.leq=>if b<=c then some (.b true)else if d<a then some (.b false)else none
 |.gtr=>if d<a then some (.b true)else if b<=c then some (.b false)else none
 |.geq=>if d<=a then some (.b true)else if b<c then some (.b false)else none
 |.eql=>if b<c\/d<a then some (.b false)else none
 |.neq=>if b<c\/d<a then some (.b true)else none
 |_=>none
def vV(P:Program)(g:BinOp)(t:TypeId)(x y:Operand)(a b:AV):Qf:=
 match g,a,b with
 |.eql,.p id d,.p f c=>match P.underlying t with
  |some (.pointer e)=>match sizeT P e with
   |some n=>if id=f/\n≠0 then some (.b (d==c))else none
   |none=>none
  |_=>none
 |.neq,.p id d,.p f c=>match P.underlying t with
  |some (.pointer e)=>match sizeT P e with
   |some n=>if id=f/\n≠0 then some (.b (!(d==c)))else none
   |none=>none
  |_=>none
 |.eql,.p _ _,.kC|.eql,.kC,.p _ _=>match P.underlying t with
  |some (.pointer _)=>some (.b false)
  |_=>none
 |.neq,.p _ _,.kC|.neq,.kC,.p _ _=>match P.underlying t with
  |some (.pointer _)=>some (.b true)
  |_=>none
 |.eql,.ro (_::_),.gX|.eql,.gX,.ro (_::_)=>match P.underlying t with
  |some (.slice _)=>some (.b false)
  |_=>none
 |.neq,.ro (_::_),.gX|.neq,.gX,.ro (_::_)=>match P.underlying t with
  |some (.slice _)=>some (.b true)
  |_=>none
 |.eql,.rp _ _,.kC|.eql,.kC,.rp _ _=>match P.underlying t with
  |some (.pointer _)=>some (.b false)
  |_=>none
 |.neq,.rp _ _,.kC|.neq,.kC,.rp _ _=>match P.underlying t with
  |some (.pointer _)=>some (.b true)
  |_=>none
 |.eql,.sl ..,.gX|.eql,.gX,.sl ..=>match P.underlying t with
  |some (.slice _)=>some (.b false)
  |_=>none
 |.neq,.sl ..,.gX|.neq,.gX,.sl ..=>match P.underlying t with
  |some (.slice _)=>some (.b true)
  |_=>none
 |.eql,.jE _ _,.vF|.eql,.vF,.jE _ _=>match P.underlying t with
  |some (.interface _)=>some (.b false)
  |_=>none
 |.neq,.jE _ _,.vF|.neq,.vF,.jE _ _=>match P.underlying t with
  |some (.interface _)=>some (.b true)
  |_=>none
 |.eql,.mp _,.qQ|.eql,.qQ,.mp _=>match P.underlying t with
  |some (.map _ _)=>some (.b false)
  |_=>none
 |.neq,.mp _,.qQ|.neq,.qQ,.mp _=>match P.underlying t with
  |some (.map _ _)=>some (.b true)
  |_=>none
 |_,.z k lo hi,.i h n=>if k=h then Vp g lo hi n n else none
 |_,.i k n,.z h lo hi=>if k=h then Vp g n n lo hi else none
 |_,_,_=>
  match yM a,yM b with
  |some u,some v=>(rV P (do eqGuard g t x y u v;binOp g t u v)).bind (nT 4)
  |_,_=>none
def abu:AV->AV->Option Bool
 |.i k a,.i c b=>if k=c then some (a==b)else none
 |.s a,.s b=>some (a==b)
 |.b a,.b b=>some (a==b)
 |.z k lo hi,.i c b=>if k=c/\(b<lo\/hi<b)then some false else none
 |_,_=>none
def Jy(k:AV):K1->Nat->Option (Option (Nat×AV))
 |[],_=>some none
 |e::es,i=>match abu k e.1 with
  |some true=>some (some (i,e.2))
  |some false=>Jy k es (i+1)
  |none=>none
def VX(P:Program)(t:TypeId)(k:AV):Bool:=
 match P.underlying t,k with
 |some (.int _),.i _ _|some (.int _),.z _ _ _|some .string,.s _|some .bool,.b _=>true
 |_,_=>false
def Uz(P:Program)(t:TypeId)(m k:AV)(ok:Bool)(J:aC):Qf:=
 match P.underlying t with
 |some (.map a b)=>
  match(match m with|.qQ=>some []|.mp id=>(match J.get id with|some (.map es)=>some es|_=>none)|_=>none)with
  |some es=>
   if VX P a k then
    match Jy k es 0 with
    |some (some (_,v))=>some (if ok then .fG [v,.b true]else v)
    |some none=>
     match P.info? b with
     |some i=>match i.zero with
      |some z=>(nT 4 z).map λz=>if ok then .fG [z,.b false]else z
      |none=>none
     |none=>none
    |none=>none
   else none
  |none=>none
 |_=>none
def UC(P:Program)(t:TypeId)(m k v:AV)(J:aC):Option aC:=
 match P.underlying t,m with
 |some (.map a _),.mp id=>
  match J.get id with
  |some (.map es)=>
   if J.lock<=id/\VX P a k then
    match Jy k es 0 with
    |some (some (i,_))=>some (J.put id (.map (es.set i (k,v))))
    |some none=>some (J.put id (.map (es++[(k,v)])))
    |none=>none
   else none
  |_=>none
 |_,_=>none
def JM(P:Program)(t:TypeId):XN:=
 match P.underlying t with
 |some (.interface _)=>some true
 |some _=>some false
 |none=>none
def UJ(P:Program)(x:AV)(t:TypeId)(ok:Bool):Qf:=
 match JM P t,x with
 |some false,.jE u v=>
  if u=t then some (if ok then .fG [v,.b true]else v)
  else if ok then match P.info? t with
   |some i=>match i.zero with
    |some z=>(nT 4 z).map λz=>.fG [z,.b false]
    |none=>none
   |none=>none
  else none
 |some false,.vF=>
  if ok then match P.info? t with
   |some i=>match i.zero with
    |some z=>(nT 4 z).map λz=>.fG [z,.b false]
    |none=>none
   |none=>none
  else none
 |_,_=>none
def UE(it:AV)(J:aC):Wg:=
 match it with
 |.p id 0=>
  match J.get id with
  |some (.iter s pos)=>
   if J.lock<=id then
    if pos<s.length then
     let r:=Utf8.decode ⟨⟨s⟩⟩ pos
     some (.fG [.b true,.i .i64 pos,.i .i32 r.1],J.put id (.iter s (pos+r.2)))
    else some (.fG [.b false],J)
   else none
  |_=>none
 |_=>none
def Zq(P:Program)(b:Ww)(d x:AV)(J:aC):Wg:=
 match b[0]? with
 |some t=>
  match yC P t,d with
  |some (_,a,_,_),.sl id f e _=>
   match Aq J a x,J.get id with
   |some (n,new),some (.cells c h true g)=>
    let k:=Nat.min n e
    if a=0 then none else
    if J.lock<=id/\new.all AV.pF then
     (BP c f (new.take (k*a))).map λi=>(.i .i64 k,J.put id (.cells i h true g))
    else none
   |_,_=>none
  |some (_,a,_,_),.gX=>match Aq J a x with
   |some _=>some (.i .i64 0,J)
   |none=>none
  |_,_=>none
 |none=>none
def Zp(P:Program)(t:TypeId)(x:AV)(J:aC):Wg:=
 match P.underlying t,x with
 |some (.slice _),.gX=>some (.fG [],J)
 |some (.slice _),.ro []=>some (.fG [],J)
 |some (.slice e),.sl id a n _=>
  if n=0 then some (.fG [],J)else
  match Aw P e,J.get id with
  |some z,some (.cells c d true b)=>
   if J.lock<=id/\z.all AV.pF then
    (BP c a (jS n z)).map λf=>(.fG [],J.put id (.cells f d true b))
   else none
  |_,_=>none
 |some (.map _ _),.qQ=>some (.fG [],J)
 |some (.map _ _),.mp id=>match J.get id with
  |some (.map _)=>if J.lock<=id then some (.fG [],J.put id (.map []))else none
  |_=>none
 |_,_=>none
def aan(m c:Nat):Bool:=match iD.nodes[m]?,iD.nodes[c]? with
 |some (.ci k a),some (.ci d b)=>Nat.beq (kc k) (kc d)&&!(JL a b)
 |some (.cs a),some (.cs b)=>!(CU a b)
 |_,_=>false
def H9(n m:Nat):Wm->Bool
 |[]=>false
 |p::l=>(bif p.2 then(match iD.nodes[p.1]? with
  |some (.bin .eql a b)=>Nat.beq n a&&aan m b
  |_=>false)else false) ||H9 n m l
def GI:BinOp->Option BinOp
 |.eql=>some .neq
 |.neq=>some .eql
 |.lss=>some .geq
 |.geq=>some .lss
 |.leq=>some .gtr
 |.gtr=>some .leq
 |_=>none
def Nq(c n m:Nat):Wm->Option Bool
 |[]=>none
 |p::l=>match iD.nodes[p.1]? with
  |some (.bin a b d)=>bif Nat.beq n b&&Nat.beq m d&&Nat.beq (xI a) c then some p.2 else Nq c n m l
  |_=>Nq c n m l
def SX(c:BinOp)(n m:Nat):XN:=match GI c with
 |some a=>(Nq (xI a) n m iD.dec).map λb=>!b
 |none=>none
def ado(x:Nd):XN:=match x with
 |.bin .eql n m=>bif H9 n m iD.dec then some false else SX .eql n m
 |.bin .neq n m=>bif H9 n m iD.dec then some true else SX .neq n m
 |.bin a n m=>SX a n m
 |_=>none
def lI(x:Nd):Qf:=
 match gq x with
 |some n=>match aar n with
  |some b=>some (.b b)
  |none=>match ado x with
   |some b=>some (.b b)
   |none=>some (.nd n)
 |none=>none
def jy:AV->Option Nat
 |.nd n=>some n
 |.i k n=>gq (.ci k n)
 |.b x=>gq (.cb x)
 |.s x=>gq (.cs x)
 |.gX=>gq (.ml [])
 |_=>none
def nodesOf:Q6->Option Q4
 |[]=>some []
 |a::l=>match jy a,nodesOf l with
  |some n,some r=>some (n::r)
  |_,_=>none
def Gj:AV->Option Nat
 |.agg l=>match nodesOf l with
  |some a=>gq (.mk a)
  |none=>none
 |_=>none
def xM:Nat->Nat->Nat->Bool
 |0,m,n=>Nat.beq m n
 |f+1,m,n=>Nat.beq m n ||match iD.nodes[m]? with
  |some (.upd _ _ a _ _)=>xM f a n
  |some (.same a _)=>xM f a n
  |_=>false
def elemsOf(agg:Bool)(size:Nat):Nat->List AV->Option Q4
 |0,_=>some []
 |n+1,cs=>match(if agg then Gj (.agg (cs.take size))else(cs.head?).bind jy),elemsOf agg size n (cs.drop size)with
  |some a,some r=>some (a::r)
  |_,_=>none
def listOf(P:Program)(J:aC)(e:TypeId):AV->Option Nat
 |.nd n=>some n
 |.gX=>gq (.ml [])
 |.sv id n=>match J.get id with
  |some (.vec m et _)=>if Nat.beq e et&&xM 100 m n then some m else none
  |_=>none
 |.sl id off len _=>match J.get id,sizeT P e,pG P e with
  |some (.cells c et _ _),some size,some agg=>if Nat.beq e et&&((agg&&Nat.blt 0 size) ||Nat.beq size 1)then match takeN c off (len*size)with
   |some cs=>match elemsOf agg size len cs with
    |some a=>gq (.ml a)
    |none=>none
   |none=>none
   else none
  |_,_,_=>none
 |_=>none
def awm(a:AV):Bool:=
 match a with
 |.nd _|.rx _ _|.sv _ _|.pv _ _ _|.pd _ _=>true
 |_=>false
def acX(P:Program)(t:TypeId):W3:=
 match P.underlying t with
 |some (.int _)=>some 0
 |some .string=>some 1
 |some .bool=>some 2
 |_=>none
def Oz(P:Program):List Field->Nat->Option Q4
 |[],_=>some []
 |f::fs,k=>if !(f.name == "_")&&Nat.beq f.offset k then match acX P f.type,Oz P fs (k+1)with
  |some a,some r=>some (a::r)
  |_,_=>none
  else none
def Yq(P:Program)(c:BinOp)(t:TypeId)(a b:AV):Qf:=
 match P.underlying t with
 |some (.int _)|some .string=>match jy a,jy b with
  |some x,some y=>lI (.bin c x y)
  |_,_=>none
 |some .bool=>match jy a,jy b with
  |some x,some y=>lI (.Gq c x y)
  |_,_=>none
 |some (.struct d)=>if !(P.stoodInHeld t)&&!(P.eqGuardType P.depth t)then match Oz P d.toList 0,Gj a,Gj b with
   |some e,some x,some y=>lI (.Gs c e x y)
   |_,_,_=>none
  else none
 |some (.pointer _)=>match c,a,b with
  |.eql,.rx _ _,.kC|.eql,.kC,.rx _ _=>some (.b false)
  |.neq,.rx _ _,.kC|.neq,.kC,.rx _ _=>some (.b true)
  |.eql,.pv _ _ _,.kC|.eql,.kC,.pv _ _ _=>some (.b false)
  |.neq,.pv _ _ _,.kC|.neq,.kC,.pv _ _ _=>some (.b true)
  |_,_,_=>none
 |_=>none
def O6(b:UnOp)(a:AV):Qf:=
 match a with
 |.nd n=>lI (.un b n)
 |_=>none
def Yr(P:Program)(src dst:TypeId)(x:AV)(J:aC):Wg:=
 match P.underlying src,P.underlying dst,x with
 |some _,some (.int k),.nd n=>(lI (.conv k n)).map (·,J)
 |some .string,some .string,.nd n=>(lI (.Ii n)).map (·,J)
 |some .string,some (.slice e),.nd n=>
  match P.underlying e with
  |some (.int .u8)=>if e≠0/\sizeT P e=some 1 then match gq (.bytes n)with
    |some m=>some (.sv J.next m,J.new (.vec m e false))
    |none=>none
   else none
  |_=>none
 |some (.slice e),some .string,x=>
  match P.underlying e with
  |some (.int .u8)=>match listOf P J e x with
    |some m=>(lI (.str m)).map (·,J)
    |none=>none
  |_=>none
 |_,_,_=>none
def adL(P:Program)(t:TypeId)(x:AV):Qf:=
 match P.underlying t,x with
 |some .string,.nd n=>lI (.slen n)
 |some (.slice _),.nd n=>lI (.len n)
 |some (.slice _),.sv _ n=>lI (.len n)
 |_,_=>none
def dB(a:Qf):Qf:=
 match a with
 |some (.nd n)=>match aar n with
  |some b=>some (.b b)
  |none=>none
 |x=>x
def JV(i:Nat):Nat->Nat->Option AV
 |0,_=>none
 |c+1,j=>match lI (.BA i j)with
  |some (.b true)=>some (.i .i64 j)
  |some (.b false)=>JV i c (j+1)
  |some (.nd m)=>match dB (some (.nd m))with
   |some (.b true)=>some (.i .i64 j)
   |some (.b false)=>JV i c (j+1)
   |_=>none
  |_=>none
def Yu(P:Program)(t:TypeId)(x a:AV):Qf:=
 match P.underlying t with
 |some .string=>match jy x,jy a with
  |some n,some i=>lI (.Ij n i)
  |_,_=>none
 |some (.array len _)=>match jy a with
  |some i=>match JV i len 0 with
   |some k=>Gh P t x k
   |none=>none
  |none=>none
 |_=>none
def Ql:Qf->Option Nat
 |none=>gq (.ci .i64 0)
 |some a=>jy a
def U3(x:Nd):Qf->Option Nat
 |none=>gq x
 |some a=>jy a
def Tv(P:Program)(t:TypeId)(x:AV)(lo hi:Qf):Qf:=
 match P.underlying t with
 |some .string=>match jy x with
  |some n=>match Ql lo,U3 (.slen n) hi with
   |some l,some h=>lI (.Ik n l h)
   |_,_=>none
  |none=>none
 |some (.slice e)=>match x,sizeT P e with
  |.nd n,some a=>match Ql lo,U3 (.len n) hi with
   |some l,some h=>lI (.ES a n l h)
   |_,_=>none
  |_,_=>none
 |_=>none
def YA(P:Program)(t:TypeId)(J:aC)(x:AV)(lo hi:Qf):Wg:=
 match P.underlying t,x with
 |some (.slice e),.sv id n=>match J.get id,sizeT P e with
  |some (.vec m b f),some a=>if Nat.beq e b&&xM 100 m n&&Nat.ble J.lock id then
    match lo with
    |none=>match Ql none,U3 (.len m) hi with
     |some z,some h=>(gq (.ES a m z h)).map λk=>(.sv id k,J.put id (.vec k b f))
     |_,_=>none
    |some _=>(Tv P t (.nd m) lo hi).map (·,J.kill id)
   else none
  |_,_=>none
 |_,_=>none
def Yt(P:Program)(t:TypeId)(x:AV)(f:Nat):Qf:=
 match P.underlying t with
 |some (.struct a)=>
  match a[f]? with
  |some c=>match sizeT P c.type with
   |some n=>if n=0 then none else match x with
    |.rx m b=>some (.rx m (b+c.offset))
    |.pv id m b=>some (.pv id m (b+c.offset))
    |_=>none
   |none=>none
  |none=>none
 |_=>none
def Yv(P:Program)(J:aC)(t:TypeId)(x b:AV):Qf:=
 match P.underlying t with
 |some (.slice e)=>match sizeT P e,jy b with
  |some a,some i=>match x with
   |.nd n=>(gq (.at a n i)).map λm=>.rx m 0
   |.sv id n=>match J.get id with
    |some (.vec _ c _)=>if Nat.beq e c then(gq (.idx n i)).map λm=>.pv id m 0 else none
    |_=>none
   |.sl _ _ len _=>match JV i len 0 with
    |some k=>zT P t x k
    |none=>none
   |_=>none
  |_,_=>none
 |some (.array len _)=>match jy b with
  |some i=>match JV i len 0 with
   |some k=>zT P t x k
   |none=>none
  |none=>none
 |_=>none
def Jo(m:Nat):Nat->Nat->Option Q6
 |_,0=>some []
 |off,n+1=>match lI (.cell off m),Jo m (off+1) n with
  |some a,some r=>some (a::r)
  |_,_=>none
def Tt(P:Program)(t:TypeId)(m off:Nat):Qf:=
 match pG P t with
 |some true=>match sizeT P t with
  |some n=>(Jo m off n).map .agg
  |none=>none
 |some false=>lI (.cell off m)
 |none=>none
def Yw(P:Program)(t:TypeId)(J:aC)(a:AV):Qf:=
 match a with
 |.rx m b=>Tt P t m b
 |.pv id i b=>match J.get id with
  |some (.vec m d _)=>match sizeT P d with
   |some c=>match gq (.at c m i)with
    |some x=>Tt P t x b
    |none=>none
   |none=>none
  |_=>none
 |_=>none
def Rx(P:Program)(b:TypeId)(k:AV):Option (Nat×Wk):=
 match P.underlying b,jy k with
 |some (.int a),some n=>match gq (.ci a 0)with
  |some z=>(gq (.bin .eql n z)).map λ_=>(n,some a)
  |none=>none
 |some .string,some n=>match gq (.cs [])with
  |some z=>(gq (.bin .eql n z)).map λ_=>(n,none)
  |none=>none
 |_,_=>none
def abv(n:Nat)(e:AV):XN:=
 match jy e with
 |some m=>match(lI (.bin .eql n m))with
  |some (.b b)=>some b
  |some (.nd j)=>match dB (some (.nd j))with
   |some (.b b)=>some b
   |_=>none
  |_=>none
 |none=>none
def NG(n:Nat):K1->Nat->Option (Option (Nat×AV))
 |[],_=>some none
 |e::es,i=>match abv n e.1 with
  |some true=>some (some (i,e.2))
  |some false=>NG n es (i+1)
  |none=>none
def TI(P:Program)(et:TypeId)(v:AV):Option (Nat×W3):=
 match pG P et with
 |some true=>match Gj v,sizeT P et with
  |some n,some k=>if Nat.beq v.cells.length k then some (n,some k)else none
  |_,_=>none
 |some false=>(jy v).map (·,none)
 |none=>none
def Ob:Wk->Option IntKind->Bool
 |none,none=>true
 |some a,some b=>Nat.beq (kc a) (kc b)
 |_,_=>false
def Tz:W3->Option Nat->Bool
 |none,none=>true
 |some a,some b=>Nat.beq a b
 |_,_=>false
def TP(P:Program)(et:TypeId):Qf:=
 match P.info? et with
 |some i=>match i.zero with
  |some z=>nT 4 z
  |none=>none
 |none=>none
def Yx(P:Program)(t:TypeId)(m k:AV)(ok:Bool)(J:aC):Qf:=
 match P.underlying t,m with
 |some (.map f a),.mp id=>
  match Rx P f k,J.get id with
  |some (n,_),some (.map es)=>match NG n es 0 with
   |some (some (_,v))=>some (if ok then .fG [v,.b true]else v)
   |some none=>(TP P a).map λz=>if ok then .fG [z,.b false]else z
   |none=>none
  |some (n,c),some (.pmap es)=>
   if Ob c none then match NG n (es.map λe=>(AV.s e.1,e.2)) 0 with
    |some (some (_,v))=>some (if ok then .fG [v,.b true]else v)
    |some none=>(TP P a).map λz=>if ok then .fG [z,.b false]else z
    |none=>none
   else none
  |some (n,c),some (.smap j h i)=>
   if Ob c h then match(TP P a).bind (TI P a)with
    |some (z,d)=>if Tz i d then match(gq (.HY z j n)).bind λg=>Tt P a g 0 with
     |some v=>if ok then match lI (.H6 j n)with
       |some b=>some (.fG [v,b])
       |none=>none
      else some v
     |none=>none
     else none
    |none=>none
   else none
  |_,_=>none
 |_,_=>none
def Yz(P:Program)(t:TypeId)(m k v:AV)(J:aC):Option aC:=
 match P.underlying t,m with
 |some (.map e f),.mp id=>
  if Nat.ble J.lock id then
   match Rx P e k,TI P f v,J.get id with
   |some (n,a),some (u,b),some (.map [])=>match gq (.ml [])with
    |some j=>(gq (.Dq j n u)).map λc=>J.put id (.smap c a b)
    |none=>none
   |some (n,a),some (u,b),some (.smap j g d)=>if Ob a g&&Tz b d then(gq (.Dq j n u)).map λc=>J.put id (.smap c a b)else none
   |_,_,_=>none
  else none
 |_,_=>none
def mapArg(v:AV):Bool:=match v with
 |.nd n=>(match iD.nodes[n]? with
  |some (.len _)=>true
  |_=>false)
 |v=>(yh v).isSome
def YB(P:Program)(t:TypeId)(J:aC)(a v:AV):Option aC:=
 match a with
 |.pv id i c=>match J.get id with
  |some (.vec m d f)=>
   if J.lock<=id/\sizeT P t=some v.cells.length then
    match sizeT P d,nodesOf v.cells with
    |some b,some e=>match gq (.upd b c m i e)with
     |some g=>some (J.put id (.vec g d f))
     |none=>none
    |_,_=>none
   else none
  |_=>none
 |_=>none
def adJ(P:Program)(g:Ww)(s x:AV)(J:aC):Wg:=
 match g.toList with
 |[t,i]=>
  match yC P t with
  |some (e,d,bytes,_)=>
   if d=0 then none else
   match(match P.underlying i with
    |some .string=>if d=1 then match jy x with
      |some n=>gq (.bytes n)
      |none=>none
     else none
    |some (.slice _)=>listOf P J e x
    |_=>none)with
   |none=>none
   |some b=>
    match s with
    |.gX=>match gq (.ml [])with
     |some a=>(gq (.app d bytes a b)).map λm=>(.sv J.next m,J.new (.vec m e true))
     |none=>none
    |.sv id n=>match J.get id with
     |some (.vec a h f)=>if Nat.beq h e&&xM 100 a n&&Nat.ble J.lock id then(gq (.app d bytes a b)).map λm=>(.sv J.next m,(J.kill id).new (.vec m e f))else none
     |_=>none
    |.sl id 0 0 (some 0)=>match J.get id with
     |some (.cells [] h true false)=>if Nat.beq h e&&Nat.ble J.lock id then match gq (.ml [])with
      |some a=>(gq (.app d bytes a b)).map λm=>(.sv J.next m,(J.kill id).new (.vec m e false))
      |none=>none
      else none
     |_=>none
    |.sl id 0 len none=>match J.get id with
     |some (.cells c h true true)=>if Nat.beq h e&&Nat.ble J.lock id&&Nat.beq c.length (len*d)then match listOf P J e (.sl id 0 len none)with
      |some a=>(gq (.app d bytes a b)).map λm=>(.sv J.next m,(J.kill id).new (.vec m e false))
      |none=>none
      else none
     |_=>none
    |_=>none
  |none=>none
 |_=>none
def Xf(P:Program)(e:TypeId)(size len:Nat)(cs:Q6):W3:=
 if cs.any awm then
  match pG P e with
  |some a=>if((a&&Nat.blt 0 size) ||Nat.beq size 1)&&Nat.blt 0 len&&Nat.beq cs.length (len*size)then match elemsOf a size len cs with
   |some b=>gq (.ml b)
   |none=>none
   else none
  |none=>none
 else none
def Xg(P:Program)(J:aC)(e:TypeId)(size len:Nat)(cs:Q6):Qf×aC:=
 match Xf P e size len cs with
 |some m=>(some (.sv J.next m),J.new (.vec m e false))
 |none=>(some (.sl J.next 0 len (some len)),J.new (.cells cs e true false))
def Yy(P:Program)(t:TypeId)(len cap:AV)(J:aC):Wg:=
 match P.underlying t with
 |some (.slice d)=>match yC P t,pG P d with
  |some (e,a,bytes,z),some b=>
   if a=0 then none else
   match(if b then Gj (.agg z)else(z.head?).bind jy),jy len,jy cap with
   |some f,some l,some c=>(gq (.rep a bytes f l c)).map λm=>(.sv J.next m,J.new (.vec m e false))
   |_,_,_=>none
  |_,_=>none
 |_=>none
def Le(P:Program)(b:Builtin)(a:Ww)(args:Q6)(J:aC):W6:=
 match b,args with
 |.len,[x]=>match a[0]? with
  |some t=>(adL P t x).map λv=>(some v,J)
  |none=>none
 |.append,[s,x]=>(adJ P a s x J).map λr=>(some r.1,r.2)
 |.min,[x,y]=>match jy x,jy y with
  |some m,some n=>(lI (.mm false m n)).map λv=>(some v,J)
  |_,_=>none
 |.max,[x,y]=>match jy x,jy y with
  |some m,some n=>(lI (.mm true m n)).map λv=>(some v,J)
  |_,_=>none
 |.unsafeSliceData,[.sv id n]=>match J.get id with
  |some (.vec m _ true)=>if xM 100 m n then some (some (.pd id n),J)else none
  |_=>none
 |.unsafeString,[.pd id n,.nd k]=>
  match a.toList with
  |[t,_]=>
   match P.underlying t,J.get id with
   |some (.pointer e),some (.vec m c _)=>
    if c=e/\e≠0/\P.cellsOf e=1/\J.lock<=id then
     match iD.nodes[k]? with
     |some (.len d)=>if xM 100 m n&&xM 100 m d then(lI (.str m)).map λv=>(some v,J.kill id)else none
     |_=>none
    else none
   |_,_=>none
  |_=>none
 |_,_=>none
def UD(P:Program)(a:String)(J:aC):AV->Option (FuncId×AV)
 |.jE t v=>
  match P.info? t,P.underlying t with
  |some i,some d=>match i.methods.find? (·.name==a)with
   |some m=>match m.path.toList,m.func with
    |[],some (f,b)=>match d,b with
     |.pointer _,true=>some (f,v)
     |.pointer e,false=>match v with
      |.p id off=>(yj P e J (.p id off)).map λx=>(f,x)
      |_=>none
     |_,true=>none
     |_,false=>some (f,v)
    |_,_=>none
   |none=>none
  |_,_=>none
 |_=>none
abbrev Caller:=FuncId->List AV->aC->Option (AV×aC)
def fH(J:aC):Qf->Option (Qf×aC):=Option.map λv=>(some v,J)
def vI:Wg->Option (Qf×aC):=Option.map λ(v,J)=>(some v,J)
def OJ:Option aC->Option (Qf×aC):=Option.map λJ=>(none,J)
def I4(P:Program)(b:Builtin)(a:Ww)(args:Q6)(J:aC):W6:=
 match b,args with
 |.len,[x]=>match a[0]? with
  |some t=>fH J (Uy P J t x)
  |none=>none
 |.append,[s,x]=>vI (Zo P a s x J)
 |.copy,[d,x]=>vI (Zq P a d x J)
 |.clear,[x]=>match a[0]? with
  |some t=>vI (Zp P t x J)
  |none=>none
 |.cap,[x]=>match a[0]? with
  |some t=>match P.underlying t,x with
   |some (.slice _),.gX=>fH J (some (.i .i64 0))
   |some (.slice _),.sl _ _ _ (some c)=>fH J (some (.i .i64 c))
   |_,_=>none
  |none=>none
 |.unsafeSliceData,[.gX]=>fH J (some .kC)
 |.unsafeSliceData,[.sl id f n g]=>if n=0/\(g=none\/g=some 0)then none else fH J (some (.p id f))
 |.unsafeString,[x,.i .i64 n]=>
  match a.toList with
  |[t,_]=>
   if n=0 then(match x with
    |.kC=>fH J (some (.s []))
    |.p _ _=>fH J (some (.s []))
    |_=>none)
   else match x with
   |.p id f=>match P.underlying t,J.get id with
    |some (.pointer e),some (.cells c i true h)=>
     if i=e/\e≠0/\P.cellsOf e=1/\0<n/\n<2^62/\J.lock<=id then
      match takeN c f n.toNat with
      |some r=>match bytesOf r with
       |some b=>some (some (.s b),J.put id (.cells c i false h))
       |none=>none
      |none=>none
     else none
    |_,_=>none
   |_=>none
  |_=>none
 |.min,[x,y]=>match yM x,yM y with
  |some u,some v=>fH J ((rV P (Builtin.min_ #[] 0 #[u,v])).bind (nT 4))
  |_,_=>none
 |.max,[x,y]=>match yM x,yM y with
  |some u,some v=>fH J ((rV P (Builtin.max_ #[] 0 #[u,v])).bind (nT 4))
  |_,_=>none
 |.min,[x,y,z]=>match yM x,yM y,yM z with
  |some u,some v,some t=>fH J ((rV P (Builtin.min_ #[] 0 #[u,v,t])).bind (nT 4))
  |_,_,_=>none
 |_,_=>none
def adK(b:Builtin)(args:Q6):Bool:=
 match b,args with
 |.append,.gX::_=>!(iD.nodes.isEmpty)
 |_,_=>false
def lK{α:Type}(a:Option α)(b:Unit->Option α):Option α:=
 match a with
 |some x=>some x
 |none=>b ()
def xJ{α:Type}{a:Option α}{b:Unit->Option α}{x:α}(h:lK a b=some x):a=some x\/b ()=some x:=by
 unfold lK at h;split at h
 ·exact .inl h
 ·exact .inr h
def xq(P:Program)(call:Caller)(o:Oper)(d:QR)(J:aC):W6:=
 match o.op with
 |.move x|.assign x=>fH J (d x)
 |.pick c a b=>match dB (d c)with
  |some (.b t)=>fH J (if t then d a else d b)
  |_=>none
 |.alloc t=>(Aw P t).map λz=>(some (.p J.next 0),J.new (.cells z t true false))
 |.box t x=>(d x).map λv=>(some (.p J.next 0),J.new (.cells v.cells t true false))
 |.build t j=>match G5 d j.toList with
  |some D=>fH J (Uu P t D)
  |none=>none
 |.buildSlice t len j=>
  match yC P t,G5 d j.toList with
  |some (e,g,_,z),some D=>
   if len*g>2^24 then none else
   match Cj (λi=>some (i*g,g)) (if len*g=0 then[]else jS len z) D with
   |some q=>some (Xg P J e g len q)
   |none=>none
  |_,_=>none
 |.load t a=>match d a with
  |some a=>fH J (lK (yj P t J a) λ_=>Yw P t J a)
  |none=>none
 |.store t a x=>match d a,d x with
  |some a,some v=>OJ (lK (Gi P t J a v) λ_=>YB P t J a v)
  |_,_=>none
 |.nilCheck x=>match d x with
  |some (.p id n)=>fH J (some (.p id n))
  |some (.rp a n)=>fH J (some (.rp a n))
  |some (.rx m n)=>fH J (some (.rx m n))
  |some (.pv id m n)=>fH J (some (.pv id m n))
  |some (.fn f E q)=>fH J (some (.fn f E q))
  |_=>none
 |.binOp w t x y _=>match d x,d y with
  |some a,some b=>fH J (lK (vV P w t x y a b) λ_=>Yq P w t a b)
  |_,_=>none
 |.unOp w _ x=>match d x with
  |some a=>match yM a with
   |some u=>fH J ((rV P (Op.unary w u)).bind (nT 4))
   |none=>fH J (O6 w a)
  |none=>none
 |.convert src A x=>match d x with
  |some a=>vI (lK (zQ P src A a J) λ_=>Yr P src A a J)
  |none=>none
 |.makeInterface t x=>match d x,JM P t with
  |some a,some false=>fH J (some (.jE t a))
  |_,_=>none
 |.makeFunc (.func f) first p=>match C9 d first.toList,C9 d p.toList with
   |some E,some q=>fH J (some (.fn f E q))
   |_,_=>none
 |.makeMap t r=>match r with
  |none=>some (some (.mp J.next),J.new (.map []))
  |some h=>match d h,P.underlying t with
   |some v,some (.map _ _)=>if mapArg v then some (some (.mp J.next),J.new (.map []))else none
   |_,_=>none
 |.makeSlice t l c=>match d l,d c with
  |some l,some c=>vI (lK (UA P t l c J) λ_=>Yy P t l c J)
  |_,_=>none
 |.slice t x lo hi none=>match d x,KF d lo,KF d hi with
  |some v,some lo,some hi=>lK (fH J (lK (CO P t J v lo hi) λ_=>Tv P t v lo hi)) λ_=>vI (YA P t J v lo hi)
  |_,_,_=>none
 |.fieldAddr t x f=>match d x with
  |some a=>fH J (lK (Ux P t a f) λ_=>Yt P t a f)
  |none=>none
 |.field t x f=>match d x with
  |some a=>fH J (Uw P t a f)
  |none=>none
 |.indexAddr t x F=>match d x,d F with
  |some a,some k=>fH J (lK (zT P t a k) λ_=>Yv P J t a k)
  |_,_=>none
 |.index t x F=>match d x,d F with
  |some a,some k=>fH J (lK (Gh P t a k) λ_=>Yu P t a k)
  |_,_=>none
 |.lookup t m k ok=>match d m,d k with
  |some m,some k=>fH J (lK (Uz P t m k ok J) λ_=>Yx P t m k ok J)
  |_,_=>none
 |.mapUpdate t m k v|.insert t m k v=>match d m,d k,d v with
  |some m,some k,some v=>OJ (lK (UC P t m k v J) λ_=>Yz P t m k v J)
  |_,_,_=>none
 |.range t x=>match P.underlying t,d x with
  |some .string,some (.s s)=>some (some (.p J.next 0),J.new (.iter s 0))
  |some (.map _ _),some .qQ=>some (some (.p J.next 0),J.new (.iterM none))
  |some (.map _ _),some (.mp id)=>match J.get id with
   |some (.map _)=>some (some (.p J.next 0),J.new (.iterM (some id)))
   |_=>none
  |_,_=>none
 |.next G true=>match d G with
  |some a=>vI (UE a J)
  |none=>none
 |.next G false=>match d G with
  |some (.p id 0)=>match J.get id with
   |some (.iterM none)=>some (some (.fG [.b false]),J)
   |some (.iterM (some m))=>match J.get m with
    |some (.map [])=>some (some (.fG [.b false]),J)
    |_=>none
   |_=>none
  |_=>none
 |.typeAssert x _ t ok=>match d x with
  |some a=>fH J (UJ P a t ok)
  |none=>none
 |.extract x k=>match d x with
  |some (.fG l)=>fH J l[k]?
  |_=>none
 |.call c=>match C9 d c.args.toList with
  |some args=>
   match c.callee with
   |.builtin b=>bif adK b args then lK (Le P b c.argTypes args J) λ_=>I4 P b c.argTypes args J else lK (I4 P b c.argTypes args J) λ_=>Le P b c.argTypes args J
   |.value f=>match d f with
    |some (.fn f H p)=>vI (call f (H++args++p) J)
    |_=>none
   |.invoke r B=>match(d r).bind (UD P B J)with
    |some (f,x)=>vI (call f (x::args) J)
    |none=>none
  |none=>none
 |_=>none
def aaE(c:BinOp)(k:IntKind)(a b:Int):Qf:=
 match c with
 |.add=>some (.i k (k.wrap (a+b)))
 |.sub=>some (.i k (k.wrap (a-b)))
 |.mul=>some (.i k (k.wrap (a*b)))
 |.eql=>some (.b (a==b))
 |.neq=>some (.b (a !=b))
 |.lss=>some (.b (decide (a<b)))
 |.leq=>some (.b (decide (a<=b)))
 |.gtr=>some (.b (decide (a>b)))
 |.geq=>some (.b (decide (a>=b)))
 |_=>none
def aaH(c:BinOp)(a b:Q2):Qf:=
 match c with
 |.add=>if a.length+b.length<=9223372036854775807 then some (.s (a++b))else none
 |.eql=>some (.b (a==b))
 |.neq=>some (.b (!(a==b)))
 |.lss=>some (.b (Op.bytesLess a b))
 |.leq=>some (.b (Op.bytesLess a b ||a==b))
 |.gtr=>some (.b (!(Op.bytesLess a b ||a==b)))
 |.geq=>some (.b (!(Op.bytesLess a b)))
 |_=>none
def aaD(P:Program)(c:BinOp)(t:TypeId)(x y:Operand)(a b:AV):Qf:=
 match a with
 |.i k m=>match b with
  |.i d n=>if k=d then match aaE c k m n with
    |some r=>some r
    |none=>vV P c t x y a b
   else vV P c t x y a b
  |_=>vV P c t x y a b
 |.s u=>match b with
  |.s v=>match aaH c u v with
   |some r=>some r
   |none=>vV P c t x y a b
  |_=>vV P c t x y a b
 |_=>vV P c t x y a b
def toList_mk(l:Q2):(⟨⟨l⟩⟩:ByteArray).toList=l:=by rw[ByteArray.toList_eq]
def atb{P:Program}{a:BinOp}{t:TypeId}{x y:Operand}{k:IntKind}{m n:Int}{r:AV}(h:aaE a k m n=some r):vV P a t x y (.i k m) (.i k n)=some r:=by
 have b:∀v:Value,(do eqGuard a t x y (.int k m) (.int k n);binOp a t (.int k m) (.int k n):Sem Value)=.pure v->nT 4 v=some r->vV P a t x y (.i k m) (.i k n)=some r:=by
  intro v c d;have:vV P a t x y (.i k m) (.i k n)=(rV P (do eqGuard a t x y (.int k m) (.int k n);binOp a t (.int k m) (.int k n):Sem Value)).bind (nT 4):=by cases a<;>rfl
  rw[this,c];exact d
 cases a<;>simp only[aaE,reduceCtorEq,bf]at h<;>subst h
 all_goals refine b _ (by simp only[eqGuard,binOp,ne_eq,not_true_eq_false,if_false,Op.intArith,Op.intCmp];rfl) rfl
def afm(a b:Q2):((⟨⟨a⟩⟩:ByteArray)++⟨⟨b⟩⟩)=⟨⟨a++b⟩⟩:=by apply ByteArray.ext;rw[ByteArray.data_append];simp
def atE{P:Program}{a:BinOp}{t:TypeId}{x y:Operand}{u v:Q2}{r:AV}(h:aaH a u v=some r):vV P a t x y (.s u) (.s v)=some r:=by
 have b:∀z:Value,(do eqGuard a t x y (.string ⟨⟨u⟩⟩) (.string ⟨⟨v⟩⟩);binOp a t (.string ⟨⟨u⟩⟩) (.string ⟨⟨v⟩⟩):Sem Value)=.pure z->nT 4 z=some r->vV P a t x y (.s u) (.s v)=some r:=by
  intro z c d;have:vV P a t x y (.s u) (.s v)=(rV P (do eqGuard a t x y (.string ⟨⟨u⟩⟩) (.string ⟨⟨v⟩⟩);binOp a t (.string ⟨⟨u⟩⟩) (.string ⟨⟨v⟩⟩):Sem Value)).bind (nT 4):=by cases a<;>rfl
  rw[this,c];exact d
 cases a<;>simp only[aaH,reduceCtorEq,bf]at h
 case add=>
  split at h
  ·next e=>
   cases h;have:¬(((⟨⟨u⟩⟩:ByteArray).size+(⟨⟨v⟩⟩:ByteArray).size:Nat):Int)>IntKind.i64.max:=by
    show ¬((u.length+v.length:Nat):Int)>9223372036854775807
    omega
   exact b (.string ⟨⟨u++v⟩⟩) (by simp only[eqGuard,binOp,Op.stringOp,aj this,afm];rfl) rfl
  ·cases h
 all_goals subst h
 all_goals refine b _ (by simp only[eqGuard,binOp,Op.stringOp,toList_mk];rfl) rfl
def ata(P:Program)(d:BinOp)(t:TypeId)(x y:Operand)(a b:AV):aaD P d t x y a b=vV P d t x y a b:=by
 unfold aaD;split
 ·split
  ·split
   ·next e=>
    subst e;split
    ·next r c=>exact(atb c).symm
    ·rfl
   ·rfl
  ·rfl
 ·split
  ·split
   ·next r c=>exact(atE c).symm
   ·rfl
  ·rfl
 ·rfl
def fUn(P:Program)(J:aC)(b:UnOp)(a:AV):W6:=
 match b with
 |.not=>match a with
  |.b x=>some (some (.b (!x)),J)
  |_=>match yM a with
   |some u=>fH J ((rV P (Op.unary b u)).bind (nT 4))
   |none=>fH J (O6 b a)
 |_=>match yM a with
  |some u=>fH J ((rV P (Op.unary b u)).bind (nT 4))
  |none=>fH J (O6 b a)
def ahj(_P:Program)(_call:Caller)(a:QR)(J:aC)(x:Operand):W6:=
 fH J (a x)
def atc(_P:Program)(_call:Caller)(d:QR)(J:aC)(c:Operand)(a:Operand)(b:Operand):W6:=
 match dB (d c)with
  |some (.b t)=>fH J (if t then d a else d b)
  |_=>none
def atn(P:Program)(_call:Caller)(_ev:QR)(J:aC)(t:TypeId):W6:=
 (Aw P t).map λz=>(some (.p J.next 0),J.new (.cells z t true false))
def atx(_P:Program)(_call:Caller)(a:QR)(J:aC)(t:TypeId)(x:Operand):W6:=
 (a x).map λv=>(some (.p J.next 0),J.new (.cells v.cells t true false))
def aty(P:Program)(_call:Caller)(b:QR)(J:aC)(t:TypeId)(a:Array (Nat×Operand)):W6:=
 match G5 b a.toList with
  |some c=>fH J (Uu P t c)
  |none=>none
def atz(P:Program)(_call:Caller)(c:QR)(J:aC)(t:TypeId)(len:Nat)(b:Array (Nat×Operand)):W6:=
     match yC P t,G5 c b.toList with
    |some (e,a,_,z),some d=>
     if len*a>2^24 then none else
     match Cj (λi=>some (i*a,a)) (if len*a=0 then[]else jS len z) d with
     |some f=>some (Xg P J e a len f)
     |none=>none
    |_,_=>none
def atA(P:Program)(_call:Caller)(b:QR)(J:aC)(t:TypeId)(a:Operand):W6:=
 match b a with
  |some a=>fH J (lK (yj P t J a) λ_=>Yw P t J a)
  |none=>none
def atB(P:Program)(_call:Caller)(b:QR)(J:aC)(t:TypeId)(a:Operand)(x:Operand):W6:=
 match b a,b x with
  |some a,some v=>OJ (lK (Gi P t J a v) λ_=>YB P t J a v)
  |_,_=>none
def atC(_P:Program)(_call:Caller)(c:QR)(J:aC)(x:Operand):W6:=
 match c x with
  |some (.p id b)=>fH J (some (.p id b))
  |some (.rp a b)=>fH J (some (.rp a b))
  |some (.rx m b)=>fH J (some (.rx m b))
  |some (.pv id m b)=>fH J (some (.pv id m b))
  |some (.fn f d e)=>fH J (some (.fn f d e))
  |_=>none
def aaG(P:Program)(_call:Caller)(c:QR)(J:aC)(d:BinOp)(t:TypeId)(x:Operand)(y:Operand):W6:=
 match c x,c y with
  |some a,some b=>fH J (lK (aaD P d t x y a b) λ_=>Yq P d t a b)
  |_,_=>none
def aaF(P:Program)(_call:Caller)(b:QR)(J:aC)(c:UnOp)(x:Operand):W6:=
 match b x with
  |some a=>fUn P J c a
  |none=>none
def atd(P:Program)(_call:Caller)(b:QR)(J:aC)(src:TypeId)(dst:TypeId)(x:Operand):W6:=
 match b x with
  |some a=>vI (lK (zQ P src dst a J) λ_=>Yr P src dst a J)
  |none=>none
def ate(P:Program)(_call:Caller)(b:QR)(J:aC)(t:TypeId)(x:Operand):W6:=
 match b x,JM P t with
  |some a,some false=>fH J (some (.jE t a))
  |_,_=>none
def atf(_P:Program)(_call:Caller)(b:QR)(J:aC)(f:FuncId)(first:Array Operand)(a:Array Operand):W6:=
 match C9 b first.toList,C9 b a.toList with
  |some c,some d=>fH J (some (.fn f c d))
  |_,_=>none
def atg(P:Program)(_call:Caller)(a:QR)(J:aC)(t:TypeId)(r:Option Operand):W6:=
 match r with
  |none=>some (some (.mp J.next),J.new (.map []))
  |some h=>match a h,P.underlying t with
   |some v,some (.map _ _)=>if mapArg v then some (some (.mp J.next),J.new (.map []))else none
   |_,_=>none
def ath(P:Program)(_call:Caller)(a:QR)(J:aC)(t:TypeId)(l:Operand)(c:Operand):W6:=
 match a l,a c with
  |some l,some c=>vI (lK (UA P t l c J) λ_=>Yy P t l c J)
  |_,_=>none
def ati(P:Program)(_call:Caller)(a:QR)(J:aC)(t:TypeId)(x:Operand)(lo:Option Operand)(hi:Option Operand):W6:=
 match a x,KF a lo,KF a hi with
  |some v,some lo,some hi=>lK (fH J (lK (CO P t J v lo hi) λ_=>Tv P t v lo hi)) λ_=>vI (YA P t J v lo hi)
  |_,_,_=>none
def atj(P:Program)(_call:Caller)(b:QR)(J:aC)(t:TypeId)(x:Operand)(f:Nat):W6:=
 match b x with
  |some a=>fH J (lK (Ux P t a f) λ_=>Yt P t a f)
  |none=>none
def atl(P:Program)(_call:Caller)(b:QR)(J:aC)(t:TypeId)(x:Operand)(f:Nat):W6:=
 match b x with
  |some a=>fH J (Uw P t a f)
  |none=>none
def atm(P:Program)(_call:Caller)(b:QR)(J:aC)(t:TypeId)(x:Operand)(c:Operand):W6:=
 match b x,b c with
  |some a,some k=>fH J (lK (zT P t a k) λ_=>Yv P J t a k)
  |_,_=>none
def ato(P:Program)(_call:Caller)(b:QR)(J:aC)(t:TypeId)(x:Operand)(c:Operand):W6:=
 match b x,b c with
  |some a,some k=>fH J (lK (Gh P t a k) λ_=>Yu P t a k)
  |_,_=>none
def atp(P:Program)(_call:Caller)(a:QR)(J:aC)(t:TypeId)(m:Operand)(k:Operand)(ok:Bool):W6:=
 match a m,a k with
  |some m,some k=>fH J (lK (Uz P t m k ok J) λ_=>Yx P t m k ok J)
  |_,_=>none
def ahk(P:Program)(_call:Caller)(a:QR)(J:aC)(t:TypeId)(m:Operand)(k:Operand)(v:Operand):W6:=
 match a m,a k,a v with
  |some m,some k,some v=>OJ (lK (UC P t m k v J) λ_=>Yz P t m k v J)
  |_,_,_=>none
def atq(P:Program)(_call:Caller)(a:QR)(J:aC)(t:TypeId)(x:Operand):W6:=
 match P.underlying t,a x with
  |some .string,some (.s s)=>some (some (.p J.next 0),J.new (.iter s 0))
  |some (.map _ _),some .qQ=>some (some (.p J.next 0),J.new (.iterM none))
  |some (.map _ _),some (.mp id)=>match J.get id with
   |some (.map _)=>some (some (.p J.next 0),J.new (.iterM (some id)))
   |_=>none
  |_,_=>none
def atr(_P:Program)(_call:Caller)(b:QR)(J:aC)(it:Operand):W6:=
 match b it with
  |some a=>vI (UE a J)
  |none=>none
def att(_P:Program)(_call:Caller)(a:QR)(J:aC)(it:Operand):W6:=
 match a it with
  |some (.p id 0)=>match J.get id with
   |some (.iterM none)=>some (some (.fG [.b false]),J)
   |some (.iterM (some m))=>match J.get m with
    |some (.map [])=>some (some (.fG [.b false]),J)
    |_=>none
   |_=>none
  |_=>none
def atu(P:Program)(_call:Caller)(b:QR)(J:aC)(x:Operand)(t:TypeId)(ok:Bool):W6:=
 match b x with
  |some a=>fH J (UJ P a t ok)
  |none=>none
def atv(_P:Program)(_call:Caller)(a:QR)(J:aC)(x:Operand)(k:Nat):W6:=
 match a x with
  |some (.fG l)=>fH J l[k]?
  |_=>none
def atw(P:Program)(call:Caller)(e:QR)(J:aC)(c:Call):W6:=
 match C9 e c.args.toList with
  |some args=>
   match c.callee with
   |.builtin b=>bif adK b args then lK (Le P b c.argTypes args J) λ_=>I4 P b c.argTypes args J else lK (I4 P b c.argTypes args J) λ_=>Le P b c.argTypes args J
   |.value f=>match e f with
    |some (.fn f g a)=>vI (call f (g++args++a) J)
    |_=>none
   |.invoke r d=>match(e r).bind (UD P d J)with
    |some (f,x)=>vI (call f (x::args) J)
    |none=>none
  |none=>none
structure OpW where
 f:Program->Caller->(QR)->aC->Option (Qf×aC)
def opF(o:Op):OpW:=
 Op.casesOn (motive:=λ_=>OpW) o
  (λx=>⟨λP call d J=>ahj P call d J x⟩)
  (λx=>⟨λP call d J=>ahj P call d J x⟩)
  (λc a b=>⟨λP call d J=>atc P call d J c a b⟩)
  (λt=>⟨λP call d J=>atn P call d J t⟩)
  (λt x=>⟨λP call d J=>atx P call d J t x⟩)
  (λt e=>⟨λP call d J=>aty P call d J t e⟩)
  (λt len e=>⟨λP call d J=>atz P call d J t len e⟩)
  (λt m k v=>⟨λP call d J=>ahk P call d J t m k v⟩)
  (λt a=>⟨λP call d J=>atA P call d J t a⟩)
  (λt a x=>⟨λP call d J=>atB P call d J t a x⟩)
  (λ_=>⟨λ_P _call _ev _J=>none⟩)
  (λ_=>⟨λ_P _call _ev _J=>none⟩)
  (λx=>⟨λP call d J=>atC P call d J x⟩)
  (λh t x y _=>⟨λP call d J=>aaG P call d J h t x y⟩)
  (λh _ x=>⟨λP call d J=>aaF P call d J h x⟩)
  (λsrc i x=>⟨λP call d J=>atd P call d J src i x⟩)
  (λ_ _=>⟨λ_P _call _ev _J=>none⟩)
  (λt x=>⟨λP call d J=>ate P call d J t x⟩)
  (λfn first g=>⟨λP call d J=>match fn with|.func f=>atf P call d J f first g|_=>none⟩)
  (λt r=>⟨λP call d J=>atg P call d J t r⟩)
  (λ_ _=>⟨λ_P _call _ev _J=>none⟩)
  (λt l c=>⟨λP call d J=>ath P call d J t l c⟩)
  (λt x lo hi p=>⟨λP call d J=>match p with|none=>ati P call d J t x lo hi|some _=>none⟩)
  (λt x f=>⟨λP call d J=>atj P call d J t x f⟩)
  (λt x f=>⟨λP call d J=>atl P call d J t x f⟩)
  (λt x j=>⟨λP call d J=>atm P call d J t x j⟩)
  (λt x j=>⟨λP call d J=>ato P call d J t x j⟩)
  (λt m k ok=>⟨λP call d J=>atp P call d J t m k ok⟩)
  (λt m k v=>⟨λP call d J=>ahk P call d J t m k v⟩)
  (λ_ _ _=>⟨λ_P _call _ev _J=>none⟩)
  (λ_ _ _ _=>⟨λ_P _call _ev _J=>none⟩)
  (λt x=>⟨λP call d J=>atq P call d J t x⟩)
  (λn b=>⟨λP call d J=>bif b then atr P call d J n else att P call d J n⟩)
  (λ_=>⟨λ_P _call _ev _J=>none⟩)
  (λx _ t ok=>⟨λP call d J=>atu P call d J x t ok⟩)
  (λx k=>⟨λP call d J=>atv P call d J x k⟩)
  (λc=>⟨λP call d J=>atw P call d J c⟩)
  (λ_=>⟨λ_P _call _ev _J=>none⟩)
  (λ_=>⟨λ_P _call _ev _J=>none⟩)
  (λ_=>⟨λ_P _call _ev _J=>none⟩)
  (λ_ _=>⟨λ_P _call _ev _J=>none⟩)
  (λ_ _ _=>⟨λ_P _call _ev _J=>none⟩)
  (λ_ _=>⟨λ_P _call _ev _J=>none⟩)
def Bj(P:Program)(call:Caller)(o:Oper)(a:QR)(J:aC):W6:=(opF o.op).f P call a J
def atG(P:Program)(J:aC)(b:UnOp)(a:AV):fUn P J b a=match yM a with
 |some u=>fH J ((rV P (Op.unary b u)).bind (nT 4))
 |none=>fH J (O6 b a):=by
 cases b<;>first|rfl|skip
 cases a<;>rfl
def Ez(P:Program)(call:Caller)(o:Oper)(c:QR)(J:aC):Bj P call o c J=xq P call o c J:=by
 obtain⟨f,a,e,pos,d,guard⟩:=o;cases a with
 |binOp a t x y _=>
  show aaG P call c J a t x y=_
  simp only[aaG,ata,xq]
 |unOp a _ x=>
  show aaF P call c J a x=_
  simp only[aaF,atG,xq]
 |slice t x lo hi g=>cases g<;>rfl
 |makeFunc fn _ _=>cases fn<;>rfl
 |next h b=>cases b<;>rfl
 |_=>rfl
def LH(o:Oper)(c:W7)(a:bK):XN:=
 match o.guard with
 |none=>some true
 |some (j,b)=>
  match c[j]? with
  |some q=>match q.dst with
   |some d=>match dB (a.t.get d)with
    |some (.b x)=>some (x==b)
    |some (.fG _)=>some false
    |_=>none
   |none=>none
  |none=>none
def Zv(P:Program)(call:Caller)(b:W7)(i:Nat)(a:bK)(J:aC):Option (bK×aC):=
 match b[i]? with
 |none=>none
 |some o=>
  match LH o b a with
  |none=>none
  |some false=>(a.put o.dst (some (.fG []))).map (·,J)
  |some true=>
   match Bj P call o a.eval J with
   |none=>none
   |some (v,c)=>(a.put o.dst v).map (·,c)
def MJ(P:Program)(call:Caller)(b:W7):Q4->bK->aC->Option (bK×aC)
 |[],a,J=>some (a,J)
 |i::rest,a,J=>
  match Zv P call b i a J with
  |some (c,J')=>MJ P call b rest c J'
  |none=>none
inductive fM where
 |normal
 |exit (id:Nat)
 |ret
abbrev Wd:=Option (fM×bK×aC)
def CJ(P:Program)(J:aC)(a:bK):List ResultVar->Option Q6
 |[]=>some []
 |.tmp t::rs=>match a.t.get t,CJ P J a rs with
  |some v,some r=>some (v::r)
  |_,_=>none
 |.cell t ty::rs=>match(a.t.get t).bind (yj P ty J),CJ P J a rs with
  |some v,some r=>some (v::r)
  |_,_=>none
def Ll:Q6->AV
 |[v]=>v
 |l=>.fG l
def A8:Q6->Nat->Tr AV->Tr AV
 |[],_,t=>t
 |v::vs,k,t=>A8 vs (k+1) (t.set k (some v))
abbrev BU:=W7->bK->aC->Option (bK×aC)
abbrev yY:=FuncId->Option (Q6->aC->Option (AV×aC))
def Jl(P:Program)(d:yY)(run:Code->bK->aC->Option (fM×bK×aC)):Caller:=λf args J=>
 match d f with
 |some g=>g args J
 |none=>
  match P.funcs[f]? with
  |none=>none
  |some fn=>match fn.body with
   |none=>none
   |some c=>
    match run c {t:=A8 args 0 .nil,n:=max args.length fn.ntmps,gn:=P.globals.size} J with
    |some (.normal,b,a)|some (.ret,b,a)=>(CJ P a b fn.results.toList).map λl=>(Ll l,a)
    |_=>none
def vZ(P:Program)(i:Caller->BU)(h:yY)(run:Code->bK->aC->Option (fM×bK×aC))(c:Code)(a:bK)(J:aC):Wd:=
 match c with
 |.skip=>some (.normal,a,J)
 |.region _ d false=>(MJ P (Jl P h run) d (List.range d.size) a J).map λ(a,J)=>(.normal,a,J)
 |.region _ d true=>(i (Jl P h run) d a J).map λ(a,J)=>(.normal,a,J)
 |.seq x y=>
  match run x a J with
  |some (.normal,e,f)=>run y e f
  |r=>r
 |.cond x y z=>
  match dB (a.eval x)with
  |some (.b t)=>run (if t then y else z) a J
  |_=>none
 |.block id b=>
  match run b a J with
  |some (.exit g,e,f)=>if g=id then some (.normal,e,f)else some (.exit g,e,f)
  |r=>r
 |.loop b=>
  match run b a J with
  |some (.normal,e,f)=>run (.loop b) e f
  |r=>r
 |.exit id=>some (.exit id,a,J)
 |.ret=>some (.ret,a,J)
 |_=>none
structure AB where
 f:Program->(Caller->BU)->yY->(Code->bK->aC->Option (fM×bK×aC))->bK->aC->Option (fM×bK×aC)
def aop:AB:=⟨λ_ _ _ _ a J=>some (.normal,a,J)⟩
def aoh(b:W7)(d:Bool):AB:=bif d then⟨λP e c run a J=>(e (Jl P c run) b a J).map λ(a,J)=>(.normal,a,J)⟩
 else⟨λP _ c run a J=>(MJ P (Jl P c run) b (List.range b.size) a J).map λ(a,J)=>(.normal,a,J)⟩
def aoo(x y:Code):AB:=⟨λ_ _ _ run a J=>match run x a J with
    |some (.normal,b,c)=>run y b c
    |r=>r⟩
def aoe(x:Operand)(y z:Code):AB:=⟨λ_ _ _ run a J=>match dB (a.eval x)with
    |some (.b t)=>run (if t then y else z) a J
    |_=>none⟩
def aod(id:Nat)(b:Code):AB:=⟨λ_ _ _ run a J=>match run b a J with
    |some (.exit c,d,e)=>if c=id then some (.normal,d,e)else some (.exit c,d,e)
    |r=>r⟩
def aog(b:Code):AB:=⟨λ_ _ _ run a J=>match run b a J with
    |some (.normal,c,d)=>run (.loop b) c d
    |r=>r⟩
def aof(id:Nat):AB:=⟨λ_ _ _ _ a J=>some (.exit id,a,J)⟩
def aoi:AB:=⟨λ_ _ _ _ a J=>some (.ret,a,J)⟩
def Qy:AB:=⟨λ_ _ _ _ _ _=>none⟩
def codeF(c:Code):AB:=
 Code.casesOn (motive:=λ_=>AB) c
  aop
  (λ_ a d=>aoh a d)
  (λx y=>aoo x y)
  (λx y z=>aoe x y z)
  (λid b=>aod id b)
  (λb=>aog b)
  (λ_ _ _ _=>Qy)
  (λid=>aof id)
  (λ_=>Qy)
  (λ_=>Qy)
  (λ_=>Qy)
  aoi
  (λ_=>Qy)
def codeF_eq(P:Program)(b:Caller->BU)(e:yY)(run:Code->bK->aC->Option (fM×bK×aC))(c:Code)(a:bK)(J:aC):(codeF c).f P b e run a J=vZ P b e run c a J:=by
 cases c with
 |region id f d=>cases d<;>rfl
 |_=>rfl
def Gg(P:Program)(b:Caller->BU)(d:yY)(n:Nat):Code->bK->aC->Option (fM×bK×aC):=
 Nat.rec (motive:=λ_=>Code->bK->aC->Option (fM×bK×aC)) (λ_ _ _=>none) (λ_ run c a J=>(codeF c).f P b d run a J) n
def ae9(P:Program)(b:Caller->BU)(d:yY)(c:Code)(a:bK)(J:aC):Gg P b d 0 c a J=none:=rfl
def yc(P:Program)(b:Caller->BU)(d:yY)(n:Nat)(c:Code)(a:bK)(J:aC):Gg P b d (n+1) c a J=vZ P b d (Gg P b d n) c a J:=codeF_eq P b d _ c a J
def ae8(P:Program)(b:Caller->BU)(a:yY)(n:Nat):Caller:=Jl P a (Gg P b a n)
end
noncomputable section
variable[aJ]
def MG{F:Env}:∀{l:Q6}{vs:Qt},aG F l vs↔l.length=vs.length/\∀(k:Nat) a x,l[k]? =some a->vs[k]? =some x->VR F a x
 |[],vs=>by
  simp only[aG];constructor
  ·rintro rfl;simp
  ·rintro⟨h,_⟩;cases vs with
   |nil=>rfl
   |cons _ _=>simp at h
 |a::l,vs=>by
  simp only[aG];constructor
  ·rintro⟨x,xs,rfl,h1,g⟩
   have e:=(MG (l:=l) (vs:=xs)).1 g;refine⟨by simp[e.1],?_⟩;intro k b y c d;cases k with
   |zero=>simp at c d;subst c;subst d;exact h1
   |succ k=>simp at c d;exact e.2 k b y c d
  ·rintro⟨f,h⟩
   cases vs with
   |nil=>simp at f
   |cons x xs=>refine⟨x,xs,rfl,h 0 a x aA aA,(MG (l:=l) (vs:=xs)).2 ⟨by simpa using f,?_⟩⟩;intro k b y c d;exact h (k+1) b y (by simpa using c) (by simpa using d)
def aG.length{F:Env}{l:Q6}{vs:Qt}(h:aG F l vs):l.length=vs.length:=(MG.1 h).1
def aG.at{F:Env}{l:Q6}{vs:Qt}(h:aG F l vs){k:Nat}{a:AV}(b:l[k]? =some a):∃x,vs[k]? =some x/\VR F a x:=by have c:=MG.1 h;obtain⟨d,rfl⟩:=fV.1 b;have:k<vs.length:=ah;exact⟨vs[k],bV this,c.2 k _ _ b (bV this)⟩
def aG.of{F:Env}{l:Q6}{vs:Qt}(c:l.length=vs.length)(h:∀(k:Nat) a,l[k]? =some a->∃x,vs[k]? =some x/\VR F a x):aG F l vs:=
 MG.2 ⟨c,λk a x d e=>by obtain⟨y,b,f⟩:=h k a d;rw[e]at b;cases b;exact f⟩
def aG.append{F:Env}{l c:Q6}{vs b:Qt}(h:aG F l vs)(d:aG F c b):aG F (l++c) (vs++b):=by
 induction l generalizing vs with
 |nil=>simp only[aG]at h;subst h;simpa using d
 |cons a l e=>simp only[aG]at h;obtain⟨x,f,rfl,g,i⟩:=h;exact⟨x,f++b,rfl,g,e i⟩
def aG.take{F:Env}{l:Q6}{vs:Qt}(h:aG F l vs)(n:Nat):aG F (l.take n) (vs.take n):=by
 induction n generalizing l vs with
 |zero=>simp[aG]
 |succ n b=>cases l with
  |nil=>simp only[aG]at h;subst h;simp[aG]
  |cons a l=>simp only[aG]at h;obtain⟨x,c,rfl,d,e⟩:=h;exact⟨x,c.take n,aA,d,b e⟩
def aG.drop{F:Env}{l:Q6}{vs:Qt}(h:aG F l vs)(n:Nat):aG F (l.drop n) (vs.drop n):=by
 induction n generalizing l vs with
 |zero=>simpa using h
 |succ n b=>cases l with
  |nil=>simp only[aG]at h;subst h;simp[aG]
  |cons a l=>simp only[aG]at h;obtain⟨x,d,rfl,e,c⟩:=h;simpa using b c
def aG.cons{F:Env}{a:AV}{l:Q6}{x:Value}{vs:Qt}(h:VR F a x)(b:aG F l vs):aG F (a::l) (x::vs):=⟨x,vs,rfl,h,b⟩
structure Env.le(F F':Env):Prop where
 pl:∀id q,F id=some q->F' id=some q
 ro:∀b o,F.ro b=some o->F'.ro b=some o
 gh:∀id,F.gh id=true->F'.gh id=true
def Env.le.refl(F:Env):F.le F:=⟨λ_ _ h=>h,λ_ _ h=>h,λ_ h=>h⟩
def Env.le.trans{a b c:Env}(h:a.le b)(d:b.le c):a.le c:=⟨λid q e=>d.pl id q (h.pl id q e),λb o f=>d.ro b o (h.ro b o f),λid e=>d.gh id (h.gh id e)⟩
def Env.has(F:Env)(id:Nat):Prop:=(∃q,F id=some q)\/F.gh id=true
def Env.has.mono{F F':Env}{id:Nat}(h:F.has id)(a:F.le F'):F'.has id:=h.elim (λ⟨q,b⟩=>.inl ⟨q,a.pl _ _ b⟩) λc=>.inr (a.gh _ c)
mutual
def GR.mono{ro ro':QP}(h:∀b o,ro b=some o->ro' b=some o):∀(a:GV)(v:Value),GR ro a v->GR ro' a v
 |.b _,_,d=>by simpa only[GR]using d
 |.i _ _,_,d=>by simpa only[GR]using d
 |.s _,_,d=>by simpa only[GR]using d
 |.g l,_,d=>by simp only[GR]at d⊢;obtain⟨x,e,h1⟩:=d;exact⟨x,e,aT.mono h l x h1⟩
 |.l j,_,d=>by
  simp only[GR]at d⊢;rcases d with d|⟨k,g,c,i,m,e,n,h1,p,q⟩
  ·exact .inl d
  exact .inr ⟨k,g,c,i,m,e,n,aT.mono h j i h1,p,λr=>by obtain⟨s,f,t,u,w⟩:=q r;exact⟨s,f,t,h _ _ u,w⟩⟩
def aT.mono{ro ro':QP}(h:∀b o,ro b=some o->ro' b=some o):∀(l:Q3)(vs:Qt),aT ro l vs->aT ro' l vs
 |[],_,c=>by simpa only[aT]using c
 |a::l,_,c=>by simp only[aT]at c⊢;obtain⟨x,xs,e,h1,d⟩:=c;exact⟨x,xs,e,GR.mono h a x h1,aT.mono h l xs d⟩
end
mutual
def VR.mono{F F':Env}(h:F.le F'):∀(a:AV)(v:Value),VR F a v->VR F' a v
 |.b _,_,b=>by simpa only[VR]using b
 |.i _ _,_,b=>by simpa only[VR]using b
 |.s _,_,b=>by simpa only[VR]using b
 |.kC,_,b=>by simpa only[VR]using b
 |.p _ _,_,b=>by simp only[VR]at b⊢;obtain⟨q,m,e⟩:=b;exact⟨q,h.pl _ _ m,e⟩
 |.gX,_,b=>by simpa only[VR]using b
 |.sl _ _ _ _,_,b=>by simp only[VR]at b⊢;obtain⟨q,m,e⟩:=b;exact⟨q,h.pl _ _ m,e⟩
 |.qQ,_,b=>by simpa only[VR]using b
 |.mp _,_,b=>by simp only[VR]at b⊢;obtain⟨q,m,e⟩:=b;exact⟨q,h.pl _ _ m,e⟩
 |.Ai,_,b=>by simpa only[VR]using b
 |.fn _ B o,_,b=>by simp only[VR]at b⊢;obtain⟨z,A,e,d,f⟩:=b;exact⟨z,A,e,aG.mono h B z d,aG.mono h o A f⟩
 |.vF,_,b=>by simpa only[VR]using b
 |.jE _ a,_,b=>by simp only[VR]at b⊢;obtain⟨x,e,d⟩:=b;exact⟨x,e,VR.mono h a x d⟩
 |.agg l,_,b=>by simp only[VR]at b⊢;obtain⟨x,e,d⟩:=b;exact⟨x,e,aG.mono h l x d⟩
 |.fG l,_,b=>by simp only[VR]at b⊢;obtain⟨x,e,d⟩:=b;exact⟨x,e,aG.mono h l x d⟩
 |.z _ _ _,_,b=>by simpa only[VR]using b
 |.ro l,_,b=>by
  simp only[VR]at b⊢;rcases b with b|⟨s,w,c,r,D,e,E,d,f,n⟩
  ·exact .inl b
  refine .inr ?_;exact⟨s,w,c,r,D,e,E,aG.mono h l r d,f,λy=>by obtain⟨o,j,t,u,G⟩:=n y;exact⟨o,j,t,h.ro _ _ u,G⟩⟩
 |.rp a _,_,b=>by simp only[VR]at b⊢;obtain⟨s,base,o,j,t,x,d,f,n⟩:=b;exact⟨s,base,o,j,t,x,h.ro _ _ d,VR.mono h a x f,n⟩
 |.nd _,_,b=>by simp only[VR]at b⊢;obtain⟨g,d,f,n⟩:=b;exact⟨g,d,f,GR.mono h.ro _ _ n⟩
 |.rx _ _,_,b=>by simp only[VR]at b⊢;obtain⟨g,s,base,o,j,t,x,d,f,n,u⟩:=b;exact⟨g,s,base,o,j,t,x,d,h.ro _ _ f,GR.mono h.ro _ _ n,u⟩
 |.sv _ _,_,b=>by
  simp only[VR]at b⊢;obtain⟨r,d,⟨q,m,f⟩|⟨H,f⟩⟩:=b
  ·exact⟨r,d,.inl ⟨q,h.pl _ _ m,f⟩⟩
  ·exact⟨r,d,.inr ⟨h.gh _ H,f⟩⟩
 |.pv _ _ _,_,b=>by simp only[VR]at b⊢;obtain⟨q,k,i,m,f⟩:=b;exact⟨q,k,i,h.pl _ _ m,f⟩
 |.pd _ _,_,b=>by simp only[VR]at b⊢;obtain⟨r,p,d,f,n⟩:=b;exact⟨r,p,d,f,λy=>by obtain⟨q,m,u⟩:=n y;exact⟨q,h.pl _ _ m,u⟩⟩
def aG.mono{F F':Env}(h:F.le F'):∀(l:Q6)(vs:Qt),aG F l vs->aG F' l vs
 |[],_,b=>by simpa only[aG]using b
 |a::l,_,b=>by simp only[aG]at b⊢;obtain⟨x,xs,e,h1,c⟩:=b;exact⟨x,xs,e,VR.mono h a x h1,aG.mono h l xs c⟩
end
def Oo{α β:Type}{f:α->Option β}:∀{l:List α}{r:List β},wK f l=some r->l.length=r.length/\∀(k:Nat) x,l[k]? =some x->∃y,r[k]? =some y/\f x=some y
 |[],r,h=>by simp[wK]at h;subst h;simp
 |x::xs,r,h=>by
  simp only[wK]at h;split at h
  ·cases h
  ·rename_i y d
   split at h
   ·cases h
   ·rename_i i b
    cases h;have c:=Oo b;refine⟨by simp[c.1],λk z a=>?_⟩;cases k with
    |zero=>simp at a;subst a;exact⟨y,aA,d⟩
    |succ k=>simp at a;obtain⟨u,e,g⟩:=c.2 k z a;exact⟨u,by simpa using e,g⟩
def amr{F:Env}:∀(n:Nat)(a:AV)(v:Value),a.toVal n=some v->VR F a v:=by
 intro n;induction n with
 |zero=>intro a v h;simp[AV.toVal]at h
 |succ n f=>
  intro a v h;have b:∀(l:Q6)(e:Qt),wK (AV.toVal n) l=some e->aG F l e:=λl e g=>by have:=Oo g;exact aG.of this.1 λk a i=>by obtain⟨y,j,m⟩:=this.2 k a i;exact⟨y,j,f _ _ m⟩
  cases a<;>simp only[AV.toVal,bG,bf]at h<;>simp only[VR]<;>first|exact h.symm|(cases h;done)|skip
  case jE t a=>obtain⟨y,c,d⟩:=h;exact⟨_,d.symm,f _ _ c⟩
  case agg l=>obtain⟨y,c,d⟩:=h;exact⟨_,d.symm,b _ _ c⟩
  case fG l=>obtain⟨y,c,d⟩:=h;exact⟨_,d.symm,b _ _ c⟩
def ams{F:Env}:∀(n:Nat)(a:AV)(v x:Value),a.toVal n=some v->VR F a x->x=v:=by
 intro n;induction n with
 |zero=>intro a v x h;simp[AV.toVal]at h
 |succ n j=>
  intro a v x h e;have f:∀(l:Q6)(g i:Qt),wK (AV.toVal n) l=some g->aG F l i->i=g:=λl g i p m=>by
   have b:=Oo p;have d:=MG.1 m;apply IK;intro k;by_cases o:k<l.length
   ·obtain⟨y,q,r⟩:=b.2 k _ (bV o);obtain⟨z,c,s⟩:=m.at (bV o);rw[q,c,j _ _ _ r s]
   ·rw[wV ah,wV ah]
  cases a<;>simp only[AV.toVal,bG,bf]at h<;>simp only[VR]at e<;>first|exact e.trans h|(cases h;done)|skip
  case jE t a=>obtain⟨y,b,d⟩:=h;obtain⟨z,rfl,c⟩:=e;rw[<-d,j _ _ _ b c]
  case agg l=>obtain⟨y,b,d⟩:=h;obtain⟨z,rfl,c⟩:=e;rw[<-d,f _ _ _ b c]
  case fG l=>obtain⟨y,b,d⟩:=h;obtain⟨z,rfl,c⟩:=e;rw[<-d,f _ _ _ b c]
def EW{F:Env}:∀(n:Nat)(v:Value)(a:AV),nT n v=some a->VR F a v:=by
 intro n;induction n with
 |zero=>intro v a h;simp[nT]at h
 |succ n f=>
  intro v a h;have c:∀(e:Qt)(l:Q6),wK (nT n) e=some l->aG F l e:=λe l j=>by
   have b:=Oo j;refine aG.of b.1.symm λk a g=>?_;have d:k<e.length:=by have:=(fV.1 g).1;omega
   obtain⟨y,i,m⟩:=b.2 k _ (bV d);rw[g]at i;cases i;exact⟨_,bV d,f _ _ m⟩
  unfold nT at h;split at h;all_goals try (cases h;done)
  all_goals try (cases h;simp only[VR];done)
  ·simp only[bG]at h;obtain⟨y,b,rfl⟩:=h;simp only[VR];exact⟨_,rfl,f _ _ b⟩
  ·simp only[bG]at h;obtain⟨y,b,rfl⟩:=h;simp only[VR];exact⟨_,rfl,c _ _ b⟩
  ·simp only[bG]at h;obtain⟨y,b,rfl⟩:=h;simp only[VR];exact⟨_,rfl,c _ _ b⟩
def Dy{α:Type}{P:Program}{s:Sem α}{a:α}(h:rV P s=some a)(w:World):s.run P w=.ok a w:=by
 induction s with
 |pure x=>simp[rV]at h;subst h;rfl
 |program k b=>exact b P h
 |mark m k b=>exact b h
 |_=>simp[rV]at h
omit [aJ] in
def Tr.ahN{α:Type}:∀p:List Bool,(Tr.nil:Tr α).wC p=none
 |[]=>rfl
 |b::p=>by
  show Tr.wC p (bif b then Tr.nil else Tr.nil)=none
  cases b<;>exact Tr.ahN p
omit [aJ] in
@[simp] theorem Tr.get_nil{α:Type}(m:Nat):(Tr.nil:Tr α).get m=none:=Tr.ahN _
omit [aJ] in
def Tr.aaQ{α:Type}(x:Option α):∀(p q:List Bool)(t:Tr α),(t.KY x p).wC q=if q=p then x else t.wC q
 |[],[],t=>rfl
 |[],c::q,t=>by rw[aj aA];rfl
 |b::p,[],t=>by rw[aj aA];cases b<;>rfl
 |b::p,c::q,t=>by
  have h1:(t.KY x (b::p))=bif b then .nd t.val (t.EP.KY x p) t.Fb else .nd t.val t.EP (t.Fb.KY x p):=rfl
  have a:∀u:Tr α,u.wC (c::q)=(bif c then u.EP else u.Fb).wC q:=λ_=>rfl;rw[h1,a,a];cases b<;>cases c
  ·show(t.Fb.KY x p).wC q=_
   rw[Tr.aaQ x p q];simp
  ·show t.EP.wC q=_
   simp
  ·show t.Fb.wC q=_
   simp
  ·show(t.EP.KY x p).wC q=_
   rw[Tr.aaQ x p q];simp
def YM:List Bool->Nat
 |[]=>0
 |b::p=>2*YM p+(if b then 1 else 2)
omit [aJ] in
def amG:∀(f n:Nat),n<2^f->YM (SE f n)=n
 |0,n,h=>by
  have:n=0:=by simpa using h
  subst this;rfl
 |f+1,n,h=>by
  have c:SE (f+1) n=bif Nat.beq n 0 then[]else Nat.beq ((n-1)%2) 0::SE f ((n-1)/2):=rfl
  rw[c];by_cases b:n=0
  ·subst b;rfl
  ·have d:Nat.beq n 0=false:=by cases n with|zero=>exact absurd rfl b|succ n=>rfl
   rw[d];show 2*YM (SE f ((n-1)/2))+_=n
   have e:2^(f+1)=2*2^f:=by rw[Md,IW]
   rw[amG f _ ah];rcases aeU (n-1)with a|a
   ·rw[a];show 2*((n-1)/2)+1=n;omega
   ·rw[a];show 2*((n-1)/2)+2=n;omega
omit [aJ] in
def amF(n:Nat):YM (path n)=n:=amG _ _ Nat.lt_log2_self
omit [aJ] in
def ayW{n m:Nat}:path n=path m↔n=m:=⟨λh=>by rw[<-amF n,h,amF],λh=>by rw[h]⟩
omit [aJ] in
def Tr.wE{α:Type}(t:Tr α)(n m:Nat)(x:Option α):(t.set n x).get m=if m=n then x else t.get m:=by
 unfold Tr.get Tr.set;rw[Tr.aaQ];by_cases h:m=n
 ·subst h;simp
 ·rw[aj h,aj (λe=>h (ayW.1 e))]
omit [aJ] in
def aC.get_put(J:aC)(id a:Nat)(o:bM):(J.put id o).get a=if a=id then some o else J.get a:=Tr.wE _ _ _ _
omit [aJ] in
def aC.Ad(J:aC)(id a:Nat):(J.kill id).get a=if a=id then none else J.get a:=Tr.wE _ _ _ _
omit [aJ] in
def aC.qK(J:aC)(a:Nat)(o:bM):(J.new o).get a=if a=J.next then some o else J.get a:=Tr.wE _ _ _ _
def bM.own:bM->Bool
 |.cells _ _ rw _=>rw
 |_=>true
structure uO(P:Program)(F:Env)(q:Place)(c:Q6)(et:TypeId)(rw opn:Bool)(cs:W2)(elem:TypeId)(fr:Nat×Nat):Prop where
 fits:q.ba+q.sz<=cs.size
 le:c.length<=q.sz
 shut:opn=false->c.length=q.sz
 cell:∀(k:Nat) a,c[k]? =some a->∃x,cs[q.ba+k]? =some x/\VR F a x
 free:rw=true->∀k,k<q.sz->¬(fr.1<=q.ba+k/\q.ba+k<fr.2)
 whole:et≠0->elem=et/\q.ba+q.sz=cs.size/\(opn=false->q.ba=0)
 room:opn=true->et≠0/\0<q.es/\sizeT P et=some q.es
def BH(b:Wk)(a:GV):Prop:=match b with
 |some k=>∃n,a=.i k n
 |none=>∃s,a=.s s
def O9(sz:W3)(b:GV):Prop:=match sz with
 |none=>b.scalar=true
 |some n=>∃a,b=.g a/\a.length=n/\a.all GV.scalar=true
def uP(ro:QP)(d:Wk)(sz:W3):Q3->List MapEntry->Prop
 |[],c=>c=[]
 |x::xs,c=>∃a b m rest,x=.g [a,b]/\c=m::rest/\BH d a/\O9 sz b/\GR ro a m.key/\GR ro b m.val/\uP ro d sz xs rest
def uP.mono{ro ro':QP}(h:∀b o,ro b=some o->ro' b=some o){d:Wk}{sz:W3}:∀{xs:Q3}{c:List MapEntry},uP ro d sz xs c->uP ro' d sz xs c
 |[],c,r=>r
 |x::xs,c,r=>by obtain⟨a,b,m,rest,e,f,h1,g,i,j,h5⟩:=r;exact⟨a,b,m,rest,e,f,h1,g,GR.mono h _ _ i,GR.mono h _ _ j,uP.mono h h5⟩
def OR(P:Program)(F:Env)(q:Place)(w:World):bM->Prop
 |.cells c et rw opn=>∃cs elem h,w.heap[q.bl]? =some (.cells cs elem h)/\uO P F q c et rw opn cs elem h
 |.iter s pos=>w.heap[q.bl]? =some (.stringIter ⟨⟨s⟩⟩ pos)/\q.ba=0
 |.map es=>∃d a,w.heap[q.bl]? =some (.map d a)/\d.size=es.length/\∀(k:Nat) e,es[k]? =some e->∃m,d[k]? =some m/\VR F e.1 m.key/\VR F e.2 m.val
 |.vec n et f=>∃xs cs elem h i,aJ.val n=some (.l xs)/\w.heap[q.bl]? =some (.cells cs elem h)/\aT F.ro xs i/\(∀y∈i,y.cells.size=q.es)/\Gx cs q.ba (dR i)/\xs.length*q.es<=q.sz/\uO P F q [] et true true cs elem h/\(∀x∈xs,x.cells.all GV.scalar=true)/\(f=true->q.es<=q.sz)
 |.smap n j sz=>∃xs d a,aJ.val n=some (.l xs)/\w.heap[q.bl]? =some (.map d a)/\uP F.ro j sz xs d.toList
 |.pmap es=>(es.map (·.1)).Nodup/\∃d a g,w.heap[q.bl]? =some (.map d a)/\d.toList.Perm g/\g.length=es.length/\∀(k:Nat) e,es[k]? =some e->∃m,g[k]? =some m/\m.key=.string ⟨⟨e.1⟩⟩/\VR F e.2 m.val
 |.iterM none=>q.ba=0/\∃b last,w.heap[q.bl]? =some (.mapIter none b #[] last)
 |.iterM (some m)=>q.ba=0/\∃b last q',F m=some q'/\w.heap[q.bl]? =some (.mapIter (some q'.bl) b #[] last)
def uO.mono{P:Program}{F F':Env}(h:F.le F'){q:Place}{c:Q6}{et:TypeId}{rw opn:Bool}{cs:W2}{elem:TypeId}{b:Nat×Nat}
 (r:uO P F q c et rw opn cs elem b):uO P F' q c et rw opn cs elem b:=
 {r with cell:=λk a d=>by obtain⟨x,e,f⟩:=r.cell k a d;exact⟨x,e,VR.mono h _ _ f⟩}
def OR.mono{P:Program}{F F':Env}(h:F.le F'){q:Place}{w:World}{o:bM}(r:OR P F q w o):OR P F' q w o:=by
 cases o with
 |cells c B rw D=>obtain⟨p,b,t,d,g⟩:=r;exact⟨p,b,t,d,g.mono h⟩
 |iter s pos=>exact r
 |map es=>obtain⟨l,a,d,g,i⟩:=r;refine⟨l,a,d,g,λk e u=>?_⟩;obtain⟨m,v,x,y⟩:=i k e u;exact⟨m,v,VR.mono h _ _ x,VR.mono h _ _ y⟩
 |iterM m=>
  cases m with
  |none=>exact r
  |some m=>obtain⟨E,j,last,G,d,g⟩:=r;exact⟨E,j,last,G,h.pl _ _ d,g⟩
 |smap n R S=>obtain⟨z,l,a,d,g,i⟩:=r;exact⟨z,l,a,d,g,i.mono h.ro⟩
 |pmap es=>obtain⟨H,l,a,A,d,I,g,i⟩:=r;refine⟨H,l,a,A,d,I,g,λk e u=>?_⟩;obtain⟨m,v,x,y⟩:=i k e u;exact⟨m,v,x,VR.mono h _ _ y⟩
 |vec n B f=>obtain⟨z,p,b,t,J,d,g,i,L,M,N,O,Q⟩:=r;exact⟨z,p,b,t,J,d,g,aT.mono h.ro _ _ i,L,M,N,O.mono h,Q⟩
def OR.heap{P:Program}{F:Env}{q:Place}{w w':World}{o:bM}(h:w'.heap[q.bl]? =w.heap[q.bl]?)(r:OR P F q w o):OR P F q w' o:=by
 cases o with
 |iterM m=>cases m<;>simp only[OR]at r⊢<;>rw[h]<;>exact r
 |_=>simp only[OR]at r⊢;rw[h];exact r
def Ut(a:AV)(x:Value):Prop:=a.toVal 4=some x\/∃k lo hi m,a=.z k lo hi/\x=.int k m/\lo<=m/\m<=hi
def Zl(c:Q6)(cs:W2):Prop:=(∀(k:Nat) a,c[k]? =some a->∃x,cs[k]? =some x/\Ut a x)/\(c≠[]->cs.size=c.length)/\(c=[]->∃t q,cs[0]? =some (.iface t q))
def Ut.vr{F:Env}{a:AV}{x:Value}(h:Ut a x):VR F a x:=by
 rcases h with h|⟨k,lo,hi,m,rfl,rfl,b,c⟩
 ·exact amr 4 a x h
 ·simp only[VR];exact⟨m,b,c,rfl⟩
def Gf(F:Env)(g:Nat)(c:Q6):Prop:=∃b a d,F.ro g=some (.cells b a d)/\c.length<=b.size/\Zl c b
def Gf.mono{F F':Env}{g:Nat}{c:Q6}(h:Gf F g c)(b:F.le F'):Gf F' g c:=by obtain⟨d,a,e,f,i⟩:=h;exact⟨d,a,e,b.ro _ _ f,i⟩
def Live(P:Program)(F:Env)(w:World)(id:Nat)(o:bM):Prop:=(∃q,F id=some q/\OR P F q w o)\/(F.gh id=true/\∃n a f,o=.vec n a f/\aJ.val n=some (.l []))
def Live.mono{P:Program}{F F':Env}(h:F.le F'){w:World}{id:Nat}{o:bM}(r:Live P F w id o):Live P F' w id o:=by
 rcases r with⟨q,a,b⟩|⟨c,d⟩
 ·exact .inl ⟨q,h.pl _ _ a,b.mono h⟩
 ·exact .inr ⟨h.gh _ c,d⟩
def Live.heap{P:Program}{F:Env}{w w':World}{id:Nat}{o:bM}(r:Live P F w id o)(h:∀q,F id=some q->OR P F q w o->w'.heap[q.bl]? =w.heap[q.bl]?):Live P F w' id o:=by
 rcases r with⟨q,a,b⟩|c
 ·exact .inl ⟨q,a,OR.heap (h q a b) b⟩
 ·exact .inr c
structure SR(P:Program)(F:Env)(J:aC)(w:World):Prop where
 nR:∀g,g<=P.globals.size->∃sz es,F g=some ⟨g,0,sz,es⟩
 dom:∀id q,F id=some q->id<J.next
 live:∀id o,J.get id=some o->Live P F w id o
 kH:∀id,F.gh id=true->F id=none/\id<J.next
 sep:∀id o id' o' q q',J.get id=some o->o.own=true->J.get id'=some o'->id≠id'->F id=some q->F id'=some q'->q.bl≠q'.bl
 jl:∀b o,F.ro b=some o->w.heap[b]? =some o
 lU:∀id o q,J.get id=some o->o.own=true->F id=some q->F.ro q.bl=none
 tabs:∀p∈aJ.tabs,Gf F p.1 p.2
def bM.awn:bM->Bool
 |.vec _ _ _=>true
 |_=>false
def SR.obj{P:Program}{F:Env}{J:aC}{w:World}(h:SR P F J w):∀id o,J.get id=some o->o.awn=false->∃q,F id=some q/\OR P F q w o:=by
 intro id o a b;rcases h.live id o a with c|⟨_,n,d,f,rfl,_⟩
 ·exact c
 ·cases b
def SR.at{P:Program}{F:Env}{J:aC}{w:World}(h:SR P F J w){id:Nat}{o:bM}{q:Place}(c:J.get id=some o)(b:F id=some q):OR P F q w o:=by
 rcases h.live id o c with⟨f,a,d⟩|⟨e,_⟩
 ·rw[b]at a;cases a;exact d
 ·rw[(h.kH id e).1]at b;cases b
structure St(P:Program)(F:Env)(J:aC)(w:World)(F':Env)(J':aC)(w':World):Prop where
 ext:F.le F'
 rel:SR P F' J' w'
 size:w.heap.size<=w'.heap.size
 keep:∀bl,bl<w.heap.size->(∀id o q,J.get id=some o->o.own=true->J.lock<=id->F id=some q->q.bl≠bl)->w'.heap[bl]? =w.heap[bl]?
 own:∀id o q,J'.get id=some o->o.own=true->J.lock<=id->F' id=some q->w.heap.size<=q.bl\/∃eX o0 q0,J.get eX=some o0/\o0.own=true/\J.lock<=eX/\F eX=some q0/\q0.bl=q.bl
 os:w'.os=w.os
 tape:w'.tape=w.tape
 output:w'.output=w.output
 lock:J'.lock=J.lock
 next:J.next<=J'.next
 new:∀id,F'.has id->F.has id\/(J.next<=id/\id<J'.next)
 rW:∀b,F'.ro b≠none->F.ro b≠none\/w.heap.size<=b\/∃eX o0 q0,J.get eX=some o0/\o0.own=true/\J.lock<=eX/\F eX=some q0/\q0.bl=b
def St.refl{P:Program}{F:Env}{J:aC}{w:World}(h:SR P F J w):St P F J w F J w:=
 ⟨Env.le.refl _,h,dK _,λ_ _ _=>rfl,λid o q a b c d=>.inr ⟨id,o,q,a,b,c,d,rfl⟩,rfl,rfl,rfl,rfl,dK _,λ_ h=>.inl h,λ_ h=>.inl h⟩
def St.trans{P:Program}{F F1 x:Env}{J y z:aC}{w w1 A:World}(h:St P F J w F1 y w1)(k:St P F1 y w1 x z A):St P F J w x z A:=by
 refine⟨h.ext.trans k.ext,k.rel,kR h.size k.size,?_,?_,k.os.trans h.os,k.tape.trans h.tape,k.output.trans h.output,k.lock.trans h.lock,kR h.next k.next,?_,?_⟩;rotate_right
 ·intro b E;rcases k.rW b E with h1|h1|⟨i,o0,j,p,r,s,d1,t⟩
  ·exact h.rW b h1
  ·exact .inr (.inl (kR h.size h1))
  ·rcases h.own i o0 j p r (h.lock▸s) d1 with g|⟨u,G,H,I,L,M,d2,N⟩
   ·right;left;omega
   ·exact .inr (.inr ⟨u,G,H,I,L,M,d2,N.trans t⟩)
 rotate_right
 ·intro id O;rcases k.new id O with h1|⟨h1,g⟩
  ·rcases h.new id h1 with f|⟨f,l⟩
   ·exact .inl f
   ·exact .inr ⟨f,yX l k.next⟩
  ·exact .inr ⟨Nat.le_trans h.next h1,g⟩
 ·intro B m n;rw[k.keep B (yX m h.size) ?_,h.keep B m n];intro id o q h1 g f l;rcases h.own id o q h1 g (h.lock▸f) l with D|⟨i,o0,j,a,b,c,d,e⟩
  ·omega
  ·rw[<-e];exact n i o0 j a b c d
 ·intro id o q h1 g f l;rcases k.own id o q h1 g (by rw[h.lock];exact f) l with D|⟨i,o0,j,a,b,c,d,e⟩
  ·exact .inl (kR h.size D)
  ·rcases h.own i o0 j a b (h.lock▸c) d with R|⟨v,o1,Q,p,r,s,d1,t⟩
   ·left;omega
   ·exact .inr ⟨v,o1,Q,p,r,s,d1,t.trans e⟩
def SR.hasLt{P:Program}{F:Env}{J:aC}{w:World}(h:SR P F J w){id:Nat}(a:F.has id):id<J.next:=a.elim (λ⟨q,b⟩=>h.dom id q b) λc=>(h.kH id c).2
def SR.Q9{P:Program}{F:Env}{J:aC}{w:World}(h:SR P F J w){id:Nat}{o:bM}(a:J.get id=some o):F.has id:=(h.live id o a).elim (λ⟨q,b,_⟩=>.inl ⟨q,b⟩) λ⟨c,_⟩=>.inr c
def St.ax8{P:Program}{F F':Env}{J J':aC}{w w':World}(h:St P F J w F' J' w'){id:Nat}{q:Place}(a:F' id=some q):F id=some q\/(J.next<=id/\id<J'.next):=by
 rcases h.new id (.inl ⟨q,a⟩)with(⟨p,b⟩|c)|d
 ·have:=h.ext.pl _ _ b;rw[a]at this;cases this;exact .inl b
 ·have:=(h.rel.kH id (h.ext.gh _ c)).1;rw[a]at this;cases this
 ·exact .inr d
def SR.drew{P:Program}{F:Env}{J:aC}{w:World}(h:SR P F J w):SR P F J {w with drawn:=w.drawn+1}:=
 ⟨h.nR,h.dom,λid o a=>(h.live id o a).heap (w:=w) (λ_ _ _=>rfl),h.kH,h.sep,h.jl,h.lU,h.tabs⟩
def St.drew{P:Program}{F:Env}{J:aC}{w:World}(h:SR P F J w):St P F J w F J {w with drawn:=w.drawn+1}:=
 ⟨Env.le.refl _,h.drew,dK _,λ_ _ _=>rfl,λid o q a b c d=>.inr ⟨id,o,q,a,b,c,d,rfl⟩,rfl,rfl,rfl,rfl,dK _,λ_ h=>.inl h,λ_ h=>.inl h⟩
def sK(bl off n:Nat):(⟨bl,off,none⟩:Addr).add n=⟨bl,off+n,none⟩:=by
 unfold Addr.add;split
 ·next h=>simp[h]
 ·rfl
def QA{w:World}{bl off:Nat}{cs:W2}{elem:TypeId}{a:Nat×Nat}(h:w.heap[bl]? =some (.cells cs elem a)):
 w.cell? ⟨bl,off,none⟩=cs[off]?:=by
 simp[World.cell?,h]
def ahC{w:World}{bl off:Nat}{cs:W2}{elem:TypeId}{a:Nat×Nat}(h:w.heap[bl]? =some (.cells cs elem a)):
 w.frozen? ⟨bl,off,none⟩=(decide (a.1<=off)&&decide (off<a.2)):=by
 simp[World.frozen?,h]
def run_loadCellsFrom{P:Program}{w:World}{bl off:Nat}{cs:W2}{elem:TypeId}{c:Nat×Nat}(h:w.heap[bl]? =some (.cells cs elem c)):
 ∀(n i:Nat)(a:W2),off+i+n<=cs.size->
  (loadCellsFrom ⟨bl,off,none⟩ i n a).run P w=.ok (a++(cs.toList.drop (off+i)).take n) w:=by
 intro n;induction n with
 |zero=>intro i a _;simp[loadCellsFrom]
 |succ n d=>
  intro i a e;have b:off+i<cs.size:=ah;have f:w.cell? ⟨bl,off+i,none⟩=some cs[off+i]:=by rw[QA h];simp[b]
  simp only[loadCellsFrom,aY,sK];have g:(load ⟨bl,off+i,none⟩).run P w=.ok cs[off+i] w:=by simp[load,Sem.run,f]
  rw[g];simp only[aX];rw[d (i+1) _ ah];congr 1;have:cs.toList.drop (off+i)=cs[off+i]::cs.toList.drop (off+(i+1)):=by rw[iG (by simpa using b)];simp[jV]
  rw[this];simp
def run_loadCells{P:Program}{w:World}{bl off n:Nat}{cs:W2}{elem:TypeId}{b:Nat×Nat}(h:w.heap[bl]? =some (.cells cs elem b))(a:off+n<=cs.size):
 (loadCells ⟨bl,off,none⟩ n).run P w=.ok ⟨(cs.toList.drop off).take n⟩ w:=by
 unfold loadCells;rw[run_loadCellsFrom h n 0 #[] (by simpa using a)];simp
def alm{P:Program}{w:World}{bl off:Nat}{cs:W2}{elem:TypeId}{a:Nat×Nat}{x:Value}(h:w.heap[bl]? =some (.cells cs elem a))(b:cs[off]? =some x):
 (load ⟨bl,off,none⟩).run P w=.ok x w:=by
 have c:w.cell? ⟨bl,off,none⟩=some x:=by rw[QA h,b]
 simp[load,Sem.run,c]
def setFrom(cs:W2)(off:Nat):Qt->Array Value
 |[]=>cs
 |v::vs=>setFrom (cs.setIfInBounds off v) (off+1) vs
def OQ:∀(vs:Qt)(cs:W2)(off:Nat),(setFrom cs off vs).size=cs.size
 |[],_,_=>rfl
 |v::vs,cs,off=>by rw[setFrom,OQ vs];simp
def Ye:∀(vs:Qt)(cs:W2)(off k:Nat),off+vs.length<=cs.size->
 (setFrom cs off vs)[k]? =if off<=k/\k<off+vs.length then vs[k-off]? else cs[k]?
 |[],cs,off,k,h=>by simp[setFrom];omega
 |v::vs,cs,off,k,h=>by
  simp only[ig]at h;rw[setFrom,Ye vs _ _ _ (by simp;omega)];by_cases h1:off+1<=k/\k<off+1+vs.length
  ·rw[au h1,au ⟨ah,by simp;omega⟩];have:k-off=(k-(off+1))+1:=ah;rw[this];simp
  ·rw[aj h1];by_cases a:k=off
   ·subst a;rw[au ⟨Nat.le_refl _,aA⟩];have b:k<cs.size:=ah;simp[b]
   ·rw[aj (by simp only[ig];omega)];rw[D9,aj (λe=>a e.symm)]
def oP(w:World)(bl:Nat)(o:Obj):World:={w with heap:=w.heap.setIfInBounds bl o}
def DJ{w:World}{bl:Nat}{o o':Obj}(h:w.heap[bl]? =some o):(oP w bl o').heap[bl]? =some o':=by have:bl<w.heap.size:=(rX.1 h).1;simp[oP,this]
def Fh{w:World}{bl k:Nat}{o':Obj}(h:k≠bl):(oP w bl o').heap[k]? =w.heap[k]?:=by simp only[oP];rw[D9,aj (λe=>h e.symm)]
def Fj{w:World}{bl:Nat}{o':Obj}:(oP w bl o').heap.size=w.heap.size:=by simp[oP]
def aDh{w:World}{bl:Nat}{o o':Obj}:oP (oP w bl o) bl o'=oP w bl o':=by simp only[oP];congr 1;apply TS;intro i;simp only[D9,Array.size_setIfInBounds];split<;>rfl
def setCell_eq{w:World}{bl off:Nat}{cs:W2}{elem:TypeId}{a:Nat×Nat}(h:w.heap[bl]? =some (.cells cs elem a))(v:Value):
 w.setCell ⟨bl,off,none⟩ v=oP w bl (.cells (cs.setIfInBounds off v) elem a):=by
 unfold World.setCell oP;congr 1;apply TS;intro i;rw[LK,D9];by_cases e:bl=i
 ·subst e;have:bl<w.heap.size:=(rX.1 h).1;rw[au rfl,au rfl,au this,h];rfl
 ·rw[aj e,aj e]
def aDg{w:World}{bl:Nat}{o:Obj}(h:w.heap[bl]? =some o):oP w bl o=w:=by
 unfold oP;have:w.heap.setIfInBounds bl o=w.heap:=by
  apply TS;intro i;rw[D9];by_cases e:bl=i
  ·subst e;have:bl<w.heap.size:=(rX.1 h).1;rw[au rfl,au this,h]
  ·rw[aj e]
 rw[this]
def qw:Value->Bool
 |.agg _|.tuple _=>false
 |_=>true
def adr{P:Program}:∀(vs:Qt)(w:World)(bl off i:Nat)(cs:W2)(elem:TypeId)(a:Nat×Nat),
 w.heap[bl]? =some (.cells cs elem a)->off+i+vs.length<=cs.size->(∀v∈vs,qw v=true)->
 (∀k,off+i<=k->k<off+i+vs.length->¬(a.1<=k/\k<a.2))->
 (storeCells ⟨bl,off,none⟩ vs i).run P w=.ok () (oP w bl (.cells (setFrom cs (off+i) vs) elem a))
 |[],w,bl,off,i,cs,elem,a,h,_,_,_=>by simp[storeCells,setFrom,aDg h]
 |v::vs,w,bl,off,i,cs,elem,a,h,d,b,c=>by
  simp only[ig]at d c;have e:off+i<cs.size:=ah;have f:w.cell? ⟨bl,off+i,none⟩=some cs[off+i]:=by rw[QA h];simp[e]
  have g:w.frozen? ⟨bl,off+i,none⟩=false:=by rw[ahC h];have:=c (off+i) ah ah;simpa using this
  have j:=b v aA;have l:(store ⟨bl,off+i,none⟩ v).run P w=.ok () (oP w bl (.cells (cs.setIfInBounds (off+i) v) elem a)):=by rw[<-setCell_eq h];cases v<;>simp[qw]at j<;>simp[store,Sem.run,f,g]
  simp only[storeCells,aY,sK,l,aX];rw[adr vs _ bl off (i+1) (cs.setIfInBounds (off+i) v) elem a (DJ h) (by simp;omega) (λx m=>b x (by simp[m])) (λk n o=>c k ah ah)];rw[aDh];rfl
def Env.put(F:Env)(id:Nat)(q:Place):Env:=⟨λk=>if k=id then some q else F k,F.ro,F.gh⟩
def Env.Ib{P:Program}{F:Env}{J:aC}{w:World}(h:SR P F J w)(q:Place):F.le (F.put J.next q):=by refine⟨λid p a=>?_,λ_ _ h=>h,λ_ h=>h⟩;have:=h.dom id p a;simp only[Env.put];rw[aj ah];exact a
def xF{w:World}{k:Nat}{o:Obj}(h:w.heap[k]? =some o):k<w.heap.size:=(rX.1 h).1
def OR.lt{P:Program}{F:Env}{q:Place}{w:World}{o:bM}(h:OR P F q w o):q.bl<w.heap.size:=by
 cases o with
 |cells c e rw g=>obtain⟨i,d,j,a,_⟩:=h;exact xF a
 |iter s pos=>exact xF h.1
 |map es=>obtain⟨k,b,a,_⟩:=h;exact xF a
 |iterM m=>cases m with
  |none=>obtain⟨_,_,_,a⟩:=h;exact xF a
  |some m=>obtain⟨_,_,_,_,_,a⟩:=h;exact xF a
 |vec n e f=>obtain⟨_,_,_,_,_,_,a,_⟩:=h;exact xF a
 |smap n l p=>obtain⟨_,_,_,_,a,_⟩:=h;exact xF a
 |pmap es=>obtain⟨_,_,_,_,a,_⟩:=h;exact xF a
def Env.ac9{P:Program}{F:Env}{J:aC}{w:World}(h:SR P F J w)(q:Place){n:Nat}(c:J.next<n):∀id,(F.put J.next q).gh id=true->(F.put J.next q) id=none/\id<n:=by intro id a;obtain⟨b,d⟩:=h.kH id a;refine⟨?_,ah⟩;simp only[Env.put];rw[aj ah];exact b
def St.alloc{P:Program}{F:Env}{J:aC}{w:World}(h:SR P F J w)(o:bM)(u:Obj)(q:Place)(O:q.bl=w.heap.size)
 (G:OR P (F.put J.next q) q {w with heap:=w.heap.push u} o):St P F J w (F.put J.next q) (J.new o) {w with heap:=w.heap.push u}:=by
 have c:=Env.Ib h q;have i:∀k,k<w.heap.size->(w.heap.push u)[k]? =w.heap[k]?:=λk Q=>by rw[IB,aj ah]
 have D:∀b o,F.ro b=some o->b<w.heap.size:=λb o t=>xF (h.jl b o t);refine⟨c,⟨?_,?_,?_,Env.ac9 h q (Ce _),?_,λb o t=>?_,λid o1 p v H r=>?_,λp d=>(h.tabs p d).mono c⟩,aA,λbl x _=>i bl x,?_,rfl,rfl,rfl,rfl,Nat.le_succ _,?_,λ_ h=>.inl h⟩;rotate_right
 ·rintro id (⟨p,d⟩|y)
  ·simp only[Env.put]at d;split at d
   ·next e=>subst e;exact .inr ⟨Nat.le_refl _,Ce _⟩
   ·exact .inl (.inl ⟨p,d⟩)
  ·exact .inl (.inr y)
 ·intro g y;obtain⟨I,es,a⟩:=h.nR g y;exact⟨I,es,c.pl _ _ a⟩
 ·intro id p d;simp only[Env.put]at d;show id<J.next+1
  split at d
  ·omega
  ·have:=h.dom id p d;omega
 ·intro id L f;rw[aC.qK]at f;split at f
  ·next e=>cases f;subst e;exact .inl ⟨q,by simp[Env.put],G⟩
  ·exact((h.live id L f).heap (w:=w) (λp _ M=>i _ M.lt)).mono c
 ·intro id o1 z E p N a A n j l m;rw[aC.qK]at a n;simp only[Env.put]at l m;split at a<;>split at n
  ·omega
  ·next e s=>
   rw[au e]at l;rw[aj s]at m;cases l;have:=(h.at n m).lt;omega
  ·next e s=>
   rw[aj e]at l;rw[au s]at m;cases m;have:=(h.at a l).lt;omega
  ·next e s=>
   rw[aj e]at l;rw[aj s]at m;exact h.sep id o1 z E p N a A n j l m
 ·exact(i b (D b o t)).trans (h.jl b o t)
 ·rw[aC.qK]at v;simp only[Env.put]at r⊢;split at v
  ·next e=>
   rw[au e]at r;cases r;cases B:F.ro q.bl with
   |none=>rfl
   |some E=>have:=D _ _ B;omega
  ·next e=>rw[aj e]at r;exact h.lU id o1 p v H r
 ·intro id o1 p a A n j;rw[aC.qK]at a;simp only[Env.put]at j;split at a
  ·next e=>rw[au e]at j;cases j;left;omega
  ·next e=>rw[aj e]at j;exact .inr ⟨id,o1,p,a,A,n,j,rfl⟩
def St.write{P:Program}{F:Env}{J:aC}{w w':World}(h:SR P F J w){id:Nat}{o o':bM}{q:Place}(l:J.get id=some o)(m:o.own=true)(B:J.lock<=id)
 (n:F id=some q) (G:w'.heap.size=w.heap.size) (v:∀k,k≠q.bl->w'.heap[k]? =w.heap[k]?) (h1:w'.os=w.os) (H:w'.tape=w.tape) (I:w'.output=w.output)
 (L:OR P F q w' o'):St P F J w F (J.put id o') w':=by
 have r:=h.lU id o q l m n;refine⟨Env.le.refl _,⟨h.nR,h.dom,?_,h.kH,?_,λb j u=>?_,λi j p x M y=>?_,h.tabs⟩,ah,?_,?_,h1,H,I,rfl,dK _,λ_ h=>.inl h,λ_ h=>.inl h⟩
 ·intro s j t;rw[aC.get_put]at t;split at t
  ·next e=>cases t;subst e;exact .inl ⟨q,n,L⟩
  ·next e=>exact(h.live s j t).heap (w:=w) λp N _=>v _ (h.sep id o s j q p l m t (λO=>e O.symm) n N).symm
 ·intro g o1 i j p z a b c d e f;rw[aC.get_put]at a c;split at a<;>split at c
  ·omega
  ·next D E=>subst D;exact h.sep g o i j p z l m c d e f
  ·next D E=>subst E;exact h.sep g o1 i o p z a b l d e f
  ·exact h.sep g o1 i j p z a b c d e f
 ·rw[v b (λe=>by rw[e]at u;rw[r]at u;cases u)];exact h.jl b j u
 ·rw[aC.get_put]at x;split at x
  ·next e=>subst e;rw[n]at y;cases y;exact r
  ·exact h.lU i j p x M y
 ·intro bl Q A;exact v bl (A id o q l m B n).symm
 ·intro g o1 p a b c d;rw[aC.get_put]at a;split at a
  ·next e=>subst e;exact .inr ⟨g,o,p,l,m,B,d,rfl⟩
  ·exact .inr ⟨g,o1,p,a,b,c,d,rfl⟩
def St.again{P:Program}{F:Env}{J:aC}{w w':World}(h:SR P F J w){id:Nat}{o o':bM}{q q':Place}(j:J.get id=some o)(x:o.own=true)(M:J.lock<=id)
 (t:F id=some q) (m:q'.bl=q.bl) (O:w'.heap.size=w.heap.size) (E:∀k,k≠q.bl->w'.heap[k]? =w.heap[k]?) (h1:w'.os=w.os) (Q:w'.tape=w.tape) (R:w'.output=w.output)
 (S:OR P (F.put J.next q') q' w' o'):St P F J w (F.put J.next q') ((J.kill id).new o') w':=by
 have n:=Env.Ib h q';have T:id<J.next:=h.dom id q t;have get:∀k,((J.kill id).new o').get k=if k=J.next then some o' else if k=id then none else J.get k:=λk=>by rw[aC.qK,aC.Ad];rfl
 have y:=h.lU id o q j x t;refine⟨n,⟨?_,?_,?_,Env.ac9 h q' (Ce _),?_,λb l G=>?_,λr l p z U A=>?_,λp i=>(h.tabs p i).mono n⟩,ah,?_,?_,h1,Q,R,rfl,Nat.le_succ _,?_,λ_ h=>.inl h⟩;rotate_right
 ·rintro id (⟨p,i⟩|j)
  ·simp only[Env.put]at i;split at i
   ·next e=>subst e;exact .inr ⟨Nat.le_refl _,Ce _⟩
   ·exact .inl (.inl ⟨p,i⟩)
  ·exact .inl (.inr j)
 ·intro g j;obtain⟨W,es,h1⟩:=h.nR g j;exact⟨W,es,n.pl _ _ h1⟩
 ·intro k p i;simp only[Env.put]at i;show k<J.next+1
  split at i
  ·omega
  ·have:=h.dom k p i;omega
 ·intro k l u;rw[get]at u;split at u
  ·next e=>cases u;subst e;exact .inl ⟨q',by simp[Env.put],S⟩
  ·split at u
   ·cases u
   ·next e v=>exact((h.live k l u).heap (w:=w) λp i _=>E _ (h.sep id o k l q p j x u (λH=>v H.symm) t i).symm).mono n
 ·intro s o1 r l p N a b c d e f;rw[get]at a c;simp only[Env.put]at e f;split at a<;>split at c
  ·omega
  ·next B v=>
   split at c
   ·cases c
   ·next I=>
    rw[au B]at e;rw[aj v]at f;cases e;rw[m];exact h.sep id o r l q N j x c (λH=>I H.symm) t f
  ·next B v=>
   split at a
   ·cases a
   ·next I=>
    rw[aj B]at e;rw[au v]at f;cases f;rw[m];exact h.sep s o1 id o p q a b j I e t
  ·next B v=>
   split at a
   ·cases a
   ·split at c
    ·cases c
    ·rw[aj B]at e;rw[aj v]at f;exact h.sep s o1 r l p N a b c d e f
 ·rw[E b (λe=>by rw[e]at G;have D:F.ro q.bl=some l:=G;rw[y]at D;cases D)];exact h.jl b l G
 ·rw[get]at z;simp only[Env.put]at A⊢;split at z
  ·next e=>rw[au e]at A;cases A;rw[m];exact y
  ·next e=>
   rw[aj e]at A;split at z
   ·cases z
   ·exact h.lU r l p z U A
 ·intro bl X L;exact E bl (L id o q j x M t).symm
 ·intro s o1 p a b c d;rw[get]at a;simp only[Env.put]at d;split at a
  ·next e=>rw[au e]at d;cases d;exact .inr ⟨id,o,q,j,x,M,t,m.symm⟩
  ·next e=>
   rw[aj e]at d;split at a
   ·cases a
   ·exact .inr ⟨s,o1,p,a,b,c,d,rfl⟩
def SR.sub{P:Program}{F:Env}{J τ:aC}{w:World}(h:SR P F J w)(i:∀id o,τ.get id=some o->J.get id=some o)(k:J.next<=τ.next):SR P F τ w:=
 ⟨h.nR,λid q l=>yX (h.dom id q l) k,λid o m=>h.live id o (i id o m),λid g=>⟨(h.kH id g).1,yX (h.kH id g).2 k⟩,
  λid o j n q p a b c d e f=>h.sep id o j n q p (i _ _ a) b (i _ _ c) d e f,h.jl,λid o q a b c=>h.lU id o q (i _ _ a) b c,h.tabs⟩
def St.sub{P:Program}{F F':Env}{J J' τ:aC}{w w':World}(h:St P F J w F' J' w')(f:∀id o,τ.get id=some o->J'.get id=some o)(e:J'.next<=τ.next)(g:τ.lock=J'.lock):St P F J w F' τ w':=
 {h with rel:=h.rel.sub f e,own:=λid o q a b c d=>h.own id o q (f _ _ a) b c d,lock:=g.trans h.lock,next:=kR h.next e,new:=λid i=>(h.new id i).imp (λx=>x) λ⟨a,b⟩=>⟨a,yX b e⟩}
