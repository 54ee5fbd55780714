/- Ground values, and the nodes by which a symbolic run names them. -/
import Derived.Calls
import Derived.Below
import Derived.Orders
import Derived.LoopN
import Derived.KernelRfl
import Derived.Laws.Strings
import Derived.WalkKit
set_option linter.all false
namespace Go.aP
abbrev XS:=List (Nat×FuncId)
abbrev XN:=Option Addr
abbrev Ys:=Option Bool
abbrev WF:=List (Nat×Nat)
abbrev WD:=Option Value
abbrev Ww:=Array TypeId
abbrev Wk:=List (Nat×Bool)
abbrev Wg:=Option IntKind
abbrev W7:=List (Option FuncId)
abbrev W6:=Array Oper
abbrev W2:=Option Nat
abbrev W8:=List (Nat×W2)
abbrev QR:=Array Value
abbrev Qf:=Nat->Option Obj
abbrev Q6:=List Value
abbrev Q2:=List Nat
abbrev Xs:=List (Q2×Nat)
abbrev Q0:=List UInt8
abbrev Wa:=List Q0
def ah{p:Prop}(h:p:=by omega):p:=h
def aA{p:Prop}(h:p:=by simp):p:=h
def aV{p:Prop}(h:p:=by decide):p:=h
noncomputable section
abbrev aj:=@if_neg
abbrev au:=@if_pos
abbrev aO:=@Bool.and_eq_true
abbrev aX:=@List.nil_append
abbrev aY:=@Result.andThen_ok
abbrev aZ:=@Sem.run_bind
abbrev bD:=@List.cons_append
abbrev bF:=@Option.some.injEq
abbrev bI:=@List.mem_cons
abbrev bJ:=@Option.map_eq_some_iff
abbrev bQ:=@Sem.run_pure
abbrev bV:=@Nat.eq_of_beq_eq_true
abbrev bZ:=@List.getElem?_eq_getElem
abbrev dP:=@Nat.le_refl
abbrev dY:=@List.drop_zero
abbrev eH:=@List.length_append
abbrev fU:=@List.length_drop
abbrev gq:=@Int.le_refl
abbrev gu:=@List.getElem?_eq_some_iff
abbrev gB:=@List.length_map
abbrev iD:=@List.length_cons
abbrev iJ:=@Option.map_some
abbrev iR:=@List.drop_eq_getElem_cons
abbrev iT:=@List.getElem_mem
abbrev iU:=@List.map_cons
abbrev iZ:=@Bool.false_eq_true
abbrev jy:=@List.getElem?_map
abbrev jA:=@List.pairwise_cons
abbrev jH:=@List.map_nil
abbrev jP:=@List.mem_append
abbrev jW:=@List.mem_singleton
abbrev jX:=@Nat.blt_eq
abbrev kC:=@Nat.add_assoc
abbrev kK:=@List.eq_nil_of_length_eq_zero
abbrev kV:=@List.flatMap_cons
abbrev kW:=@Nat.le_trans
abbrev lK:=@List.length_nil
abbrev l9:=@List.getElem?_cons_zero
abbrev mg:=@List.take_of_length_le
abbrev mP:=@List.length_take
abbrev mQ:=@Nat.zero_add
abbrev oh:=@List.getElem?_take
abbrev oK:=@List.map_append
abbrev pG:=@List.getElem?_append_left
abbrev pX:=@List.append_nil
abbrev pY:=@Nat.add_zero
abbrev qF:=@Bool.or_eq_true
abbrev qI:=@Prod.mk.injEq
abbrev qZ:=@List.lt_irrefl
abbrev ru:=@Nat.xor_assoc
abbrev rZ:=@List.mem_map
abbrev tH:=@Array.getElem?_eq_some_iff
abbrev tJ:=@Int.natCast_zero
abbrev tK:=@List.drop_drop
abbrev tN:=@List.mem_of_getElem?
abbrev uG:=@List.all_cons
abbrev uH:=@List.drop_left
abbrev uI:=@List.getElem?_drop
abbrev uJ:=@Nat.add_mul
abbrev uK:=@Option.getD_some
abbrev uS:=@congrArg
abbrev vG:=@Nat.zero_le
abbrev wo:=@BitVec.toNat_ofInt
abbrev wB:=@Nat.le_of_ble_eq_true
abbrev wC:=@Nat.mul_le_mul_right
abbrev xu:=@Int.le_trans
abbrev xw:=@List.getElem?_cons_succ
abbrev xA:=@List.getElem?_eq_none
abbrev xC:=@Option.getD_none
abbrev xF:=@Sem.run_ite
abbrev yw:=@Array.getElem?_toList
abbrev yx:=@Bool.not_eq_true'
abbrev yA:=@List.cons.injEq
abbrev yB:=@List.getElem?_append_right
abbrev yE:=@Option.bind_eq_some_iff
abbrev zx:=@Bool.eq_iff_iff
abbrev zB:=@Int.toNat_natCast
abbrev zC:=@List.mem_cons_of_mem
abbrev zF:=@List.mem_of_getLast?
abbrev zH:=@Nat.lt_of_lt_of_le
abbrev zI:=@Nat.lt_or_ge
abbrev Ak:=@List.getD_eq_getElem?_getD
abbrev Bj:=@Array.getD_eq_getD_getElem?
abbrev Bl:=@Bool.false_or
abbrev Bq:=@List.lt_trans
abbrev Bv:=@List.mem_range
abbrev Bz:=@List.take_length
abbrev BA:=@List.take_succ_cons
abbrev BD:=@Option.bind_some
abbrev C9:=@List.mem_filter
abbrev Dc:=@List.not_lt
abbrev Dh:=@Nat.sub_self
abbrev DX:=@of_decide_eq_true
abbrev Ep:=@Array.getElem?_eq_getElem
abbrev Es:=@Array.getElem?_setIfInBounds
abbrev Eu:=@List.take_add
abbrev Ew:=@Nat.lt_succ_self
abbrev ER:=@decide_eq_false
abbrev Gw:=@Bool.true_and
abbrev Gy:=@Int.fdiv_eq_ediv_of_nonneg
abbrev Gz:=@Int.natCast_add
abbrev GH:=@List.getElem?_toArray
abbrev GI:=@List.length_singleton
abbrev Jd:=@Int.toNat_of_nonneg
abbrev Je:=@List.drop_eq_nil_of_le
abbrev Jf:=@List.ext_getElem?
abbrev Jg:=@List.length_set
abbrev Jh:=@List.mem_nil_iff
abbrev Ji:=@List.take_append_drop
abbrev Jk:=@Nat.mul_comm
abbrev Jl:=@Nat.one_mul
abbrev Jm:=@Nat.sub_zero
abbrev Jo:=@Option.some.inj
abbrev Jp:=@Prod.ext
abbrev JU:=@decide_eq_true
abbrev MC:=@Array.getElem?_modify
abbrev MF:=@Array.length_toList
abbrev MG:=@Bool.or_false
abbrev MN:=@List.drop_take
abbrev MO:=@List.length_pos_iff
abbrev MQ:=@List.mem_of_mem_drop
abbrev MR:=@List.mem_of_mem_take
abbrev MS:=@List.singleton_append
abbrev MV:=@Nat.add_comm
abbrev MW:=@Nat.le_of_eq
abbrev MX:=@Nat.min_eq_left
abbrev MZ:=@Nat.pow_succ
abbrev Na:=@Option.isNone_some
abbrev Nb:=@Prod.exists
abbrev P5:=@Array.ext'
abbrev P6:=@Array.getElem?_push
abbrev P9:=@List.getElem?_of_mem
abbrev Qa:=@List.length_eq_zero_iff
abbrev Qb:=@List.replicate_succ
abbrev Qc:=@Nat.mod_eq_of_lt
abbrev Qd:=@Nat.mul_pos
abbrev Uj:=@Array.ext_getElem?
abbrev Uk:=@Bool.and_true
abbrev Ul:=@Classical.em
abbrev Uo:=@List.filter_cons
abbrev Ur:=@List.le_antisymm
abbrev Us:=@List.mem_cons_self
abbrev Ut:=@List.pairwise_iff_getElem
abbrev Uu:=@List.take_add_one
abbrev Uw:=@List.take_append_of_le_length
abbrev Ux:=@List.take_left
abbrev Uy:=@List.take_zero
abbrev Uz:=@Nat.add_sub_cancel'
abbrev UA:=@Nat.eq_zero_or_pos
abbrev UC:=@Nat.mul_le_mul_left
abbrev UD:=@Nat.pow_le_pow_right
abbrev UE:=@Nat.testBit_or
abbrev Y9:=@Array.getElem?_append_left
abbrev Za:=@Array.mapM_eq_mapM_toList
abbrev Zb:=@BitVec.toNat_and
abbrev Zc:=@Bool.false_and
abbrev Zd:=@Bool.not_eq_false
abbrev Ze:=@Bool.not_true
abbrev Zf:=@List.drop_append_of_le_length
abbrev Zg:=@List.drop_succ_cons
abbrev Zh:=@List.findIdx?_cons
abbrev Zi:=@List.head?_cons
abbrev Zj:=@List.length_eq_one_iff
abbrev Zk:=@List.length_filter_le
abbrev Zl:=@List.map_set
abbrev Zm:=@List.mem_append_left
abbrev Zn:=@List.mem_iff_getElem?
abbrev Zp:=@Nat.add_sub_cancel_left
abbrev Zq:=@Nat.mul_div_cancel
abbrev Zr:=@Option.isSome_some
abbrev Zt:=@Sem.run_map
abbrev Zw:=@UInt8.toNat_inj
abbrev aem:=@Array.eq_empty_of_size_eq_zero
abbrev aen:=@Array.map_empty
abbrev aeo:=@Array.size_range
abbrev aep:=@BitVec.toNat_not
abbrev aer:=@BitVec.toNat_or
abbrev aes:=@BitVec.xor_allOnes
abbrev aeC:=@Int.lt_or_le
abbrev aeD:=@Int.zero_add
abbrev aeE:=@List.Perm.refl
abbrev aeF:=@List.all_append
abbrev aeG:=@List.all_nil
abbrev aeH:=@List.any_cons
abbrev aeI:=@List.any_eq_false
abbrev aeJ:=@List.cons_lt_cons_iff
abbrev aeK:=@List.contains_iff_mem
abbrev aeL:=@List.drop_append
abbrev aeM:=@List.drop_sublist
abbrev aeN:=@List.filter_append
abbrev aeO:=@List.filter_sublist
abbrev aeP:=@List.flatMap_append
abbrev aeQ:=@List.getElem?_range
abbrev aeR:=@List.getElem?_set
abbrev aeS:=@List.mapM_cons
abbrev aeT:=@List.map_take
abbrev aeU:=@List.mem_append_right
abbrev aeV:=@List.mem_flatMap
abbrev aeW:=@List.mem_or_eq_of_mem_set
abbrev aeX:=@List.mem_replicate
abbrev aeY:=@List.pairwise_append
abbrev aeZ:=@List.take_take
abbrev ae0:=@Nat.and_two_pow_sub_one_eq_mod
abbrev ae1:=@Nat.ble_eq_true_of_le
abbrev ae2:=@Nat.mod_two_eq_zero_or_one
abbrev ae3:=@Nat.mul_assoc
abbrev ae5:=@Option.isSome_none
abbrev ae6:=@Option.map_eq_none_iff
abbrev ae7:=@Option.map_none
abbrev ae8:=@Option.toList_some
abbrev afb:=@UInt8.toNat_ofNat'
abbrev afe:=@World.cell?_of_block
abbrev aff:=@World.ownsRow_made
abbrev anl:=@Classical.choose_spec
abbrev anm:=@List.concat_eq_append
abbrev ano:=@List.eq_nil_or_concat
abbrev anp:=@List.filter_cons_of_neg
abbrev anq:=@List.filter_cons_of_pos
abbrev anr:=@List.filter_eq_nil_iff
abbrev ant:=@List.mem_zipIdx_iff_getElem?
abbrev anu:=@List.perm_append_comm
abbrev anw:=@Nat.le_mul_of_pos_right
abbrev anx:=@Nat.two_pow_add_eq_or_of_lt
abbrev anz:=@Option.isSome_iff_exists
abbrev anA:=@Option.ne_none_iff_exists'
inductive GV where
 |b (x:Bool)
 |i (k:IntKind) (n:Int)
 |s (x:Q0)
 |l (xs:List GV)
 |g (cs:List GV)
 deriving Inhabited
abbrev Wb:=Nat->Option GV
abbrev W3:=Option GV
abbrev Q1:=List GV
abbrev Wr:=Option Q1
def GV.cells:GV->List GV
 |.g cs=>cs
 |v=>[v]
def GV.scalar:GV->Bool
 |.g _=>false
 |_=>true
def GV.gQ(size:Nat)(g:GV):Bool:=Nat.beq g.cells.length size&&g.cells.all GV.scalar
def dw(c:BinOp)(k:IntKind)(a b:Int):W3:=
 match c with
 |.add=>some (.i k (k.wrap (a+b)))
 |.sub=>some (.i k (k.wrap (a-b)))
 |.mul=>some (.i k (k.wrap (a*b)))
 |.quo=>if b=0 then none else some (.i k (k.wrap (a.tdiv b)))
 |.rem=>if b=0 then none else some (.i k (a.tmod b))
 |.and=>some (.i k (k.wrap (BitVec.ofInt k.bits a &&& BitVec.ofInt k.bits b).toNat))
 |.or=>some (.i k (k.wrap (BitVec.ofInt k.bits a |||BitVec.ofInt k.bits b).toNat))
 |.xor=>some (.i k (k.wrap (BitVec.ofInt k.bits a ^^^ BitVec.ofInt k.bits b).toNat))
 |.andNot=>some (.i k (k.wrap (BitVec.ofInt k.bits a &&& ~~~ BitVec.ofInt k.bits b).toNat))
 |.eql=>some (.b (a==b))
 |.neq=>some (.b (a !=b))
 |.lss=>some (.b (decide (a<b)))
 |.leq=>some (.b (decide (a<=b)))
 |.gtr=>some (.b (decide (a>b)))
 |.geq=>some (.b (decide (a>=b)))
 |_=>none
def kT(c:BinOp)(k:IntKind)(a b:Int):W3:=
 if b<0 then none else
 match c with
 |.shl=>some (.i k (k.wrap (a*2^(min b.toNat k.bits))))
 |.shr=>some (.i k (a.fdiv (2^(min b.toNat k.bits))))
 |_=>none
def zk(c:BinOp)(a b:Q0):W3:=
 match c with
 |.add=>if((a.length+b.length:Nat):Int)<=IntKind.i64.max then some (.s (a++b))else none
 |.eql=>some (.b (a==b))
 |.neq=>some (.b (!(a==b)))
 |.lss=>some (.b (Op.bytesLess a b))
 |.leq=>some (.b (Op.bytesLess a b ||a==b))
 |.gtr=>some (.b (!(Op.bytesLess a b ||a==b)))
 |.geq=>some (.b (!(Op.bytesLess a b)))
 |_=>none
def pV:Q2->List GV->List GV->Option Bool
 |[],[],[]=>some true
 |0::c,.i k a::l,.i d b::m=>if k=d then(pV c l m).map ((a==b)&&·)else none
 |1::c,.s a::l,.s b::m=>(pV c l m).map ((a==b)&&·)
 |2::c,.b a::l,.b b::m=>(pV c l m).map ((a==b)&&·)
 |_,_,_=>none
def jd(op:BinOp):GV->GV->Option GV
 |.i k a,.i c b=>match op with
  |.shl=>kT .shl k a b
  |.shr=>kT .shr k a b
  |op=>if k=c then dw op k a b else none
 |.s a,.s b=>zk op a b
 |_,_=>none
def Va(c:BinOp):GV->GV->Option GV
 |.b a,.b b=>match c with
  |.eql=>some (.b (a==b))
  |.neq=>some (.b (!(a==b)))
  |_=>none
 |_,_=>none
def Nv(d:BinOp)(c:Q2):GV->GV->Option GV
 |.g a,.g b=>match d with
  |.eql=>(pV c a b).map .b
  |.neq=>(pV c a b).map λr=>.b (!r)
  |_=>none
 |_,_=>none
def YV(b:UnOp):GV->Option GV
 |.b a=>match b with
  |.not=>some (.b (!a))
  |_=>none
 |.i k n=>match b with
  |.neg=>some (.i k (k.wrap (0-n)))
  |.xor=>dw .xor k (if k.signed then -1 else k.max) n
  |_=>none
 |_=>none
def pR:Q1->Option Q0
 |[]=>some []
 |.i .u8 n::rest=>if 0<=n/\n<256 then(pR rest).map (UInt8.ofNat n.toNat::·)else none
 |_::_=>none
def dK(s:Q0):Q1:=s.map λb=>.i .u8 b.toNat
inductive Nd where
 |arg
 |ci (k:IntKind) (n:Int)
 |cb (x:Bool)
 |cs (x:Q0)
 |bin (op:BinOp) (a b:Nat)
 |G7 (op:BinOp) (a b:Nat)
 |G8 (op:BinOp) (ks:Q2) (a b:Nat)
 |un (op:UnOp) (a:Nat)
 |mm (big:Bool) (a b:Nat)
 |conv (k:IntKind) (a:Nat)
 |len (a:Nat)
 |slen (a:Nat)
 |IW (a i:Nat)
 |IX (a lo hi:Nat)
 |FI (size a lo hi:Nat)
 |idx (a i:Nat)
 |at(size a i:Nat)
 |cell (off a:Nat)
 |mk (l:Q2)
 |ml (l:Q2)
 |app (size bytes a b:Nat)
 |upd (size off a i:Nat) (vs:Q2)
 |rep (size bytes z l c:Nat)
 |bytes (a:Nat)
 |str (a:Nat)
 |IV (a:Nat)
 |same (a b:Nat)
 |Cb (a j:Nat)
 |call (f:Nat) (l:Q2) (j:Nat)
 |Iw (z m k:Nat)
 |Iy (m k:Nat)
 |DU (m k v:Nat)
 deriving Inhabited
def rJ:GV->GV->Bool
 |.i k a,.i c b=>Nat.beq (IntKind.casesOn k 0 1 2 3 4 5 6 7) (IntKind.casesOn c 0 1 2 3 4 5 6 7)&&a==b
 |.s a,.s b=>a==b
 |_,_=>false
def gZ(k:GV):Q1->Option GV
 |[]=>none
 |.g [a,v]::l=>if rJ k a=true then some v else gZ k l
 |_::l=>gZ k l
def kH(k v:GV):Q1->List GV
 |[]=>[.g [k,v]]
 |.g [a,u]::l=>if rJ k a=true then .g [k,v]::l else .g [a,u]::kH k v l
 |x::l=>x::kH k v l
def valsOf(val:Wb):Q2->Option Q1
 |[]=>some []
 |n::l=>match val n,valsOf val l with
  |some g,some r=>some (g::r)
  |_,_=>none
def GV.int:GV->Option Int
 |.i _ n=>some n
 |_=>none
def putCells(cs:Q1)(off:Nat)(vs:Q1):Wr:=
 if off+vs.length<=cs.length then some (cs.take off++vs++cs.drop (off+vs.length))else none
def GV.put(x:GV)(off:Nat)(vs:Q1):W3:=
 match x with
 |.g a=>(putCells a off vs).map .g
 |_=>match off,vs with
  |0,[v]=>some v
  |_,_=>none
def Nd.den(I:Nat->List GV->Option Q1)(val:Wb):Nd->Option GV
 |.arg=>none
 |.ci k n=>some (.i k n)
 |.cb x=>some (.b x)
 |.cs x=>some (.s x)
 |.bin e a b=>match val a,val b with
  |some x,some y=>jd e x y
  |_,_=>none
 |.G7 e a b=>match val a,val b with
  |some x,some y=>Va e x y
  |_,_=>none
 |.G8 e q a b=>match val a,val b with
  |some x,some y=>Nv e q x y
  |_,_=>none
 |.un e a=>match val a with
  |some x=>YV e x
  |none=>none
 |.mm p a b=>match val a,val b with
  |some (.i k x),some (.i s y)=>if k=s then some (.i k (if p then(if x<y then y else x)else(if y<x then y else x)))else none
  |_,_=>none
 |.conv k a=>match val a with
  |some (.i _ n)=>some (.i k (k.wrap n))
  |_=>none
 |.len a=>match val a with
  |some (.l xs)=>some (.i .i64 xs.length)
  |_=>none
 |.slen a=>match val a with
  |some (.s x)=>some (.i .i64 x.length)
  |_=>none
 |.IW a i=>match val a,val i with
  |some (.s x),some (.i _ k)=>if 0<=k then match x[k.toNat]? with
   |some c=>some (.i .u8 c.toNat)
   |none=>none
   else none
  |_,_=>none
 |.IX a lo hi=>match val a,val lo,val hi with
  |some (.s x),some (.i _ l),some (.i _ h)=>if 0<=l/\l<=h/\h<=x.length then some (.s ((x.take h.toNat).drop l.toNat))else none
  |_,_,_=>none
 |.FI size a lo hi=>match val a,val lo,val hi with
  |some (.l xs),some (.i _ l),some (.i _ h)=>if 0<=l/\l<=h/\h<=xs.length/\(xs.all λx=>Nat.beq x.cells.length size)=true then some (.l ((xs.take h.toNat).drop l.toNat))else none
  |_,_,_=>none
 |.idx a i=>match val a,val i with
  |some (.l xs),some (.i _ k)=>if 0<=k/\k<xs.length then some (.i .i64 k)else none
  |_,_=>none
 |.at size a i=>match val a,val i with
  |some (.l xs),some (.i _ k)=>if 0<=k then match xs[k.toNat]? with
   |some x=>if x.cells.length=size then some x else none
   |none=>none
   else none
  |_,_=>none
 |.cell off a=>match val a with
  |some g=>match g.cells[off]? with
   |some c=>if c.scalar then some c else none
   |none=>none
  |none=>none
 |.mk l=>match valsOf val l with
  |some gs=>if gs.all GV.scalar then some (.g gs)else none
  |none=>none
 |.ml l=>(valsOf val l).map .l
 |.app size t a b=>match val a,val b with
  |some (.l xs),some (.l o)=>if o.all (GV.gQ size)=true/\2*(xs.length+o.length)*t<=2^48/\xs.length+o.length<=2^48 then some (.l (xs++o))else none
  |_,_=>none
 |.upd size off a i vs=>match val a,val i,valsOf val vs with
  |some (.l xs),some (.i _ k),some gs=>
   if 0<=k/\gs.all GV.scalar=true then match xs[k.toNat]? with
   |some x=>if x.cells.length=size then(x.put off gs).map λy=>.l (xs.set k.toNat y)else none
   |none=>none
   else none
  |_,_,_=>none
 |.rep size w z l c=>match val z,val l,val c with
  |some x,some (.i _ n),some (.i _ m)=>if 0<=n/\n<=m/\w*m<=2^48/\m<=2^60/\x.gQ size=true then some (.l (List.replicate n.toNat x))else none
  |_,_,_=>none
 |.bytes a=>match val a with
  |some (.s x)=>some (.l (dK x))
  |_=>none
 |.str a=>match val a with
  |some (.l xs)=>if xs.length<=2^48 then(pR xs).map .s else none
  |_=>none
 |.IV a=>match val a with
  |some (.s x)=>some (.s x)
  |_=>none
 |.same a b=>match val a,val b with
  |some (.l xs),some (.l o)=>if o.length=xs.length then some (.l o)else none
  |_,_=>none
 |.Cb a j=>match val a with
  |some (.i _ m)=>some (.b (decide (m=(j:Int))))
  |_=>none
 |.call f l j=>match valsOf val l with
  |some gs=>match I f gs with
   |some r=>r[j]?
   |none=>none
  |none=>none
 |.Iw z m k=>match val z,val m,val k with
  |some d,some (.l xs),some g=>some ((gZ g xs).getD d)
  |_,_,_=>none
 |.Iy m k=>match val m,val k with
  |some (.l xs),some g=>some (.b (gZ g xs).isSome)
  |_,_=>none
 |.DU m k v=>match val m,val k,val v with
  |some (.l xs),some g,some u=>some (.l (kH g u xs))
  |_,_,_=>none
def xX(o:BinOp):Nat:=BinOp.casesOn o 0 1 2 3 4 5 6 7 8 9 10 11 12 13 14 15 16
def ayM{o o':BinOp}(h:Nat.beq (xX o) (xX o')=true):o=o':=by cases o<;>cases o'<;>first|rfl|(simp[xX]at h)
def LZ(o:UnOp):Nat:=UnOp.casesOn o 0 1 2 3
def aFh{o o':UnOp}(h:Nat.beq (LZ o) (LZ o')=true):o=o':=by cases o<;>cases o'<;>first|rfl|(simp[LZ]at h)
def kc(k:IntKind):Nat:=IntKind.casesOn k 0 1 2 3 4 5 6 7
def W9{o o':IntKind}(h:Nat.beq (kc o) (kc o')=true):o=o':=by cases o<;>cases o'<;>first|rfl|(simp[kc]at h)
def zX:Q2->List Nat->Bool
 |[],[]=>true
 |a::l,b::m=>Nat.beq a b&&zX l m
 |_,_=>false
def ab1:∀{l m:Q2},zX l m=true->l=m
 |[],[],_=>rfl
 |a::l,b::m,h=>by simp only[zX,aO]at h;rw[bV h.1,ab1 h.2]
 |[],_::_,h=>by simp[zX]at h
 |_::_,[],h=>by simp[zX]at h
def Du:Q0->List UInt8->Bool
 |[],[]=>true
 |a::l,b::m=>Nat.beq a.toNat b.toNat&&Du l m
 |_,_=>false
def ZV:∀{l m:Q0},Du l m=true->l=m
 |[],[],_=>rfl
 |a::l,b::m,h=>by simp only[Du,aO]at h;rw[Zw.1 (bV h.1),ZV h.2]
 |[],_::_,h=>by simp[Du]at h
 |_::_,[],h=>by simp[Du]at h
def Kv(a b:Int):Bool:=match a,b with
 |.ofNat m,.ofNat n=>Nat.beq m n
 |.negSucc m,.negSucc n=>Nat.beq m n
 |_,_=>false
def aiL{a b:Int}(h:Kv a b=true):a=b:=by
 unfold Kv at h;split at h
 ·rw[bV h]
 ·rw[bV h]
 ·cases h
def Nd.eq(x y:Nd):Bool:=
 match x with
 |.arg=>false
 |.ci k n=>match y with|.ci t L=>Nat.beq (kc k) (kc t)&&Kv n L|_=>false
 |.cb b=>match y with|.cb e=>(bif b then e else !e)|_=>false
 |.cs s=>match y with|.cs q=>Du s q|_=>false
 |.bin u a b=>match y with|.bin p d e=>Nat.beq a d&&Nat.beq b e&&Nat.beq (xX u) (xX p)|_=>false
 |.G7 u a b=>match y with|.G7 p d e=>Nat.beq a d&&Nat.beq b e&&Nat.beq (xX u) (xX p)|_=>false
 |.G8 u M a b=>match y with|.G8 p E d e=>Nat.beq a d&&Nat.beq b e&&Nat.beq (xX u) (xX p)&&zX M E|_=>false
 |.un u a=>match y with|.un p d=>Nat.beq a d&&Nat.beq (LZ u) (LZ p)|_=>false
 |.mm g a b=>match y with|.mm J d e=>Nat.beq a d&&Nat.beq b e&&(bif g then J else !J)|_=>false
 |.conv k a=>match y with|.conv t d=>Nat.beq a d&&Nat.beq (kc k) (kc t)|_=>false
 |.len a=>match y with|.len d=>Nat.beq a d|_=>false
 |.slen a=>match y with|.slen d=>Nat.beq a d|_=>false
 |.IW a i=>match y with|.IW d w=>Nat.beq a d&&Nat.beq i w|_=>false
 |.IX a l h=>match y with|.IX d r F=>Nat.beq a d&&Nat.beq l r&&Nat.beq h F|_=>false
 |.FI s a l h=>match y with|.FI q d r F=>Nat.beq s q&&Nat.beq a d&&Nat.beq l r&&Nat.beq h F|_=>false
 |.idx a i=>match y with|.idx d w=>Nat.beq a d&&Nat.beq i w|_=>false
 |.at s a i=>match y with|.at q d w=>Nat.beq s q&&Nat.beq a d&&Nat.beq i w|_=>false
 |.cell o a=>match y with|.cell G d=>Nat.beq o G&&Nat.beq a d|_=>false
 |.mk l=>match y with|.mk r=>zX l r|_=>false
 |.ml l=>match y with|.ml r=>zX l r|_=>false
 |.app z s a b=>match y with|.app A q d e=>Nat.beq z A&&Nat.beq s q&&Nat.beq a d&&Nat.beq b e|_=>false
 |.upd s o a i N=>match y with|.upd q G d w H=>Nat.beq s q&&Nat.beq o G&&Nat.beq a d&&Nat.beq i w&&zX N H|_=>false
 |.rep s b z l c=>match y with|.rep q e A r O=>Nat.beq s q&&Nat.beq b e&&Nat.beq z A&&Nat.beq l r&&Nat.beq c O|_=>false
 |.bytes a=>match y with|.bytes d=>Nat.beq a d|_=>false
 |.str a=>match y with|.str d=>Nat.beq a d|_=>false
 |.IV a=>match y with|.IV d=>Nat.beq a d|_=>false
 |.same a b=>match y with|.same d e=>Nat.beq a d&&Nat.beq b e|_=>false
 |.Cb a j=>match y with|.Cb d I=>Nat.beq a d&&Nat.beq j I|_=>false
 |.call f l j=>match y with|.call P r I=>Nat.beq f P&&Nat.beq j I&&zX l r|_=>false
 |.Iw z m k=>match y with|.Iw A D t=>Nat.beq z A&&Nat.beq m D&&Nat.beq k t|_=>false
 |.Iy m k=>match y with|.Iy D t=>Nat.beq m D&&Nat.beq k t|_=>false
 |.DU m k v=>match y with|.DU D t Q=>Nat.beq m D&&Nat.beq k t&&Nat.beq v Q|_=>false
def Xz{a b:Nat}:Nat.beq a b=true↔a=b:=⟨Nat.eq_of_beq_eq_true,λh=>by rw[h];exact Nat.beq_refl b⟩
def ayp{l m:Q2}:zX l m=true↔l=m:=⟨ab1,λh=>by subst h;induction l with|nil=>rfl|cons a l b=>simp[zX,b]⟩
def afR{l m:Q0}:Du l m=true↔l=m:=⟨ZV,λh=>by subst h;induction l with|nil=>rfl|cons a l b=>simp[Du,b]⟩
def aiM{a b:Int}:Kv a b=true↔a=b:=⟨aiL,λh=>by subst h;cases a<;>simp[Kv]⟩
def akc{o o':BinOp}:xX o=xX o'↔o=o':=⟨λh=>ayM (Xz.2 h),λh=>by rw[h]⟩
def aFg{o o':UnOp}:LZ o=LZ o'↔o=o':=⟨λh=>aFh (Xz.2 h),λh=>by rw[h]⟩
def awK{o o':IntKind}:kc o=kc o'↔o=o':=⟨λh=>W9 (Xz.2 h),λh=>by rw[h]⟩
def U9{a b:Bool}:(bif a then b else !b)=true↔a=b:=by cases a<;>cases b<;>simp
def Nd.eq_of{x y:Nd}(h:x.eq y=true):x=y/\x≠.arg:=by
 cases x<;>simp only[Nd.eq]at h
 case arg=>cases h
 all_goals
  split at h
  ·simp only[aO,Xz,ayp,afR,aiM,akc,aFg,awK,U9]at h;simp_all
  ·cases h
class iI where
 nodes:List Nd
 dec:Wk
 ka:Nat:=0
def QX(x:Nd):List Nd->Nat->Option Nat
 |[],_=>none
 |y::l,k=>bif x.eq y then some k else QX x l (k+1)
def gI[iI](x:Nd):W2:=QX x iI.nodes 0
def QO(n:Nat):Wk->Option Bool
 |[]=>none
 |p::l=>bif Nat.beq n p.1 then some p.2 else QO n l
def aaw[iI](n:Nat):Ys:=QO n iI.dec
def ahv{x:Nd}:∀{l:List Nd}{k n:Nat},QX x l k=some n->k<=n/\l[n-k]? =some x/\x≠.arg
 |[],_,_,h=>by simp[QX]at h
 |y::l,k,n,h=>by
  simp only[QX]at h;cases a:x.eq y with
  |true=>rw[a]at h;simp only[cond_true,bF]at h;subst h;obtain⟨rfl,b⟩:=Nd.eq_of a;exact⟨Nat.le_refl _,aA,b⟩
  |false=>rw[a]at h;simp only[cond_false]at h;obtain⟨d,b,c⟩:=ahv h;refine⟨ah,?_,c⟩;have:n-k=(n-(k+1))+1:=ah;rw[this,xw];exact b
def aud[iI]{x:Nd}{n:Nat}(h:gI x=some n):iI.nodes[n]? =some x/\x≠.arg:=by obtain⟨_,a,b⟩:=ahv h;exact⟨by simpa using a,b⟩
def QS{n:Nat}{b:Bool}:∀{l:Wk},QO n l=some b->(n,b)∈l
 |[],h=>by simp[QO]at h
 |p::l,h=>by
  simp only[QO]at h;cases a:Nat.beq n p.1 with
  |true=>
   rw[a]at h;simp only[cond_true,bF]at h;have:p=(n,b):=by rw[<-h,bV a]
   rw[this];simp
  |false=>rw[a]at h;simp only[cond_false]at h;exact zC _ (QS h)
noncomputable section
inductive AV where
 |b (x:Bool)
 |i (k:IntKind) (n:Int)
 |s (x:Q0)
 |kG
 |p (id off:Nat)
 |iq
 |sl (id off len:Nat) (cap:W2)
 |rQ
 |mp (id:Nat)
 |AU
 |fn (f:FuncId) (first caps:List AV)
 |vS
 |jL (t:TypeId) (v:AV)
 |agg (l:List AV)
 |fG (l:List AV)
 |z (k:IntKind) (lo hi:Int)
 |ro (l:List AV)
 |rp (a:AV) (off:Nat)
 |nd (n:Nat)
 |rx (n off:Nat)
 |sv (id n:Nat)
 |pv (id n off:Nat)
 |pd (id n:Nat)
 deriving Inhabited
abbrev XX:=List (AV×AV)
abbrev Wo:=List (Nat×AV)
abbrev QQ:=Operand->Option AV
abbrev Q4:=Option AV
abbrev Q3:=List AV
abbrev QP:=List (Nat×Q3)
structure Place where
 bl:Nat
 ba:Nat
 sz:Nat
 es:Nat
structure Env where
 pl:Nat->Option Place
 ro:Nat->Option Obj
 gh:Nat->Bool
instance:CoeFun Env (λ_=>Nat->Option Place):=⟨Env.pl⟩
class aJ extends iI where
 tabs:QP
 I:Nat->List GV->Option Q1
 val:Nat->Option GV
 uo:∀(n:Nat) nd,nodes[n]? =some nd->nd≠.arg->∃g,val n=some g/\nd.den I val=some g
 Dy:∀(n:Nat)(b:Bool),(n,b)∈dec->val n=some (.b b)
def eP(xs:Q6):Q6:=xs.flatMap λx=>x.cells.toList
def Hq(cs:QR)(off:Nat)(l:Q6):Prop:=∀(k:Nat) x,l[k]? =some x->cs[off+k]? =some x
mutual
def GR(ro:Qf):GV->Value->Prop
 |.b x,v=>v=.bool x
 |.i k n,v=>v=.int k n
 |.s x,v=>v=.string ⟨⟨x⟩⟩
 |.g cs,v=>∃vs,v=.agg ⟨vs⟩/\aU ro cs vs
 |.l xs,v=>(xs=[]/\∃p,v=.slice p 0 0)\/∃bl off c a sz,v=.slice (some ⟨bl,off,none⟩) xs.length c/\xs.length<=c/\aU ro xs a/\(∀x∈a,x.cells.size=sz)/\
   (xs≠[]->∃cs elem b,ro bl=some (.cells cs elem b)/\off+(eP a).length<=cs.size/\Hq cs off (eP a))
def aU(ro:Qf):Q1->List Value->Prop
 |[],vs=>vs=[]
 |a::l,vs=>∃x xs,vs=x::xs/\GR ro a x/\aU ro l xs
end
variable[aJ]
mutual
def VR(F:Env):AV->Value->Prop
 |.b x,v=>v=.bool x
 |.i k n,v=>v=.int k n
 |.s x,v=>v=.string ⟨⟨x⟩⟩
 |.kG,v=>v=.pointer none
 |.p id off,v=>∃q,F id=some q/\v=.pointer (some ⟨q.bl,q.ba+off,none⟩)
 |.iq,v=>v=.slice none 0 0
 |.sl id off len cap,v=>∃q,F id=some q/\len<=cap.getD ((q.sz-off)/q.es)/\v=.slice (some ⟨q.bl,q.ba+off,none⟩) len (cap.getD ((q.sz-off)/q.es))
 |.rQ,v=>v=.map none
 |.mp id,v=>∃q,F id=some q/\v=.map (some q.bl)
 |.AU,v=>v=.nilFunc
 |.fn f fi b,v=>∃e vs,v=.func (.func f) ⟨e⟩ ⟨vs⟩/\aG F fi e/\aG F b vs
 |.vS,v=>v=.nilIface
 |.jL t a,v=>∃x,v=.iface t x/\VR F a x
 |.agg l,v=>∃vs,v=.agg ⟨vs⟩/\aG F l vs
 |.fG l,v=>∃vs,v=.tuple ⟨vs⟩/\aG F l vs
 |.z k lo hi,v=>∃n:Int,lo<=n/\n<=hi/\v=.int k n
 |.ro l,v=>(l=[]/\∃p,v=.slice p 0 0)\/∃bl off c xs sz,v=.slice (some ⟨bl,off,none⟩) l.length c/\l.length<=c/\aG F l xs/\(∀x∈xs,x.cells.size=sz)/\
   (l≠[]->∃cs elem d,F.ro bl=some (.cells cs elem d)/\off+(eP xs).length<=cs.size/\Hq cs off (eP xs))
 |.rp a off,v=>∃bl base cs elem d x,F.ro bl=some (.cells cs elem d)/\VR F a x/\v=.pointer (some ⟨bl,base+off,none⟩)/\base+x.cells.size<=cs.size/\Hq cs base x.cells.toList
 |.nd n,v=>∃g,aJ.val n=some g/\g.scalar=true/\GR F.ro g v
 |.rx n off,v=>∃g bl base cs elem d x,aJ.val n=some g/\F.ro bl=some (.cells cs elem d)/\GR F.ro g x/\v=.pointer (some ⟨bl,base+off,none⟩)/\base+x.cells.size<=cs.size/\Hq cs base x.cells.toList
 |.sv id n,v=>∃xs,aJ.val n=some (.l xs)/\((∃q,F id=some q/\xs.length<=q.sz/q.es/\v=.slice (some ⟨q.bl,q.ba,none⟩) xs.length (q.sz/q.es))\/(F.gh id=true/\xs=[]/\v=.slice none 0 0))
 |.pv id n off,v=>∃q k i,F id=some q/\aJ.val n=some (.i k i)/\v=.pointer (some ⟨q.bl,q.ba+i.toNat*q.es+off,none⟩)
 |.pd id n,v=>∃xs p,aJ.val n=some (.l xs)/\v=.pointer p/\(xs≠[]->∃q,F id=some q/\p=some ⟨q.bl,q.ba,none⟩)
def aG(F:Env):Q3->List Value->Prop
 |[],vs=>vs=[]
 |a::l,vs=>∃x xs,vs=x::xs/\VR F a x/\aG F l xs
end
inductive Tr(α:Type) where
 |nil
 |nd (v:Option α) (l r:Tr α)
 deriving Inhabited
def Tr.val{α:Type}(t:Tr α):Option α:=Tr.casesOn t none (λv _ _=>v)
def Tr.FD{α:Type}(t:Tr α):Tr α:=Tr.casesOn t .nil (λ_ l _=>l)
def Tr.FX{α:Type}(t:Tr α):Tr α:=Tr.casesOn t .nil (λ_ _ r=>r)
def Tr.wR{α:Type}(p:List Bool):Tr α->Option α:=List.rec (motive:=λ_=>Tr α->Option α) Tr.val (λb _ a t=>a (bif b then t.FD else t.FX)) p
def Tr.LM{α:Type}(x:Option α)(p:List Bool):Tr α->Tr α:=List.rec (motive:=λ_=>Tr α->Tr α) (λt=>.nd x t.FD t.FX)
 (λb _ a t=>bif b then .nd t.val (a t.FD) t.FX else .nd t.val t.FD (a t.FX)) p
def SL(f:Nat):Nat->List Bool:=Nat.rec (motive:=λ_=>Nat->List Bool) (λ_=>[]) (λ_ a n=>bif Nat.beq n 0 then[]else Nat.beq ((n-1)%2) 0::a ((n-1)/2)) f
def path(n:Nat):List Bool:=SL (Nat.log2 n+1) n
def Tr.get{α:Type}(t:Tr α)(n:Nat):Option α:=Tr.wR (path n) t
def Tr.set{α:Type}(t:Tr α)(n:Nat)(x:Option α):Tr α:=Tr.LM x (path n) t
inductive bP where
 |cells (c:Q3) (et:TypeId) (rw opn:Bool)
 |iter (s:Q0) (pos:Nat)
 |map (es:XX)
 |iterM (m:W2)
 |vec (n:Nat) (et:TypeId) (f:Bool)
 |smap (n:Nat) (kk:Wg) (sz:W2)
 |pmap (es:List (Q0×AV))
 deriving Inhabited
abbrev YY:=List (Nat×bP)
abbrev WP:=List (Nat×Option bP)
structure aC where
 h:Tr bP
 next:Nat
 lock:Nat
 deriving Inhabited
abbrev Wf:=Option (AV×aC)
abbrev W5:=Option (Q4×aC)
def aC.get(J:aC)(id:Nat):Option bP:=J.h.get id
def aC.put(J:aC)(id:Nat)(o:bP):aC:={J with h:=J.h.set id (some o)}
def aC.kill(J:aC)(id:Nat):aC:={J with h:=J.h.set id none}
def aC.new(J:aC)(o:bP):aC:={J with h:=J.h.set J.next (some o),next:=J.next+1}
def wY{α β:Type}(f:α->Option β):List α->Option (List β)
 |[]=>some []
 |x::xs=>match f x with
  |none=>none
  |some y=>match wY f xs with
   |none=>none
   |some a=>some (y::a)
def AV.toVal:Nat->AV->Option Value
 |0,_=>none
 |n+1,a=>
  match a with
  |.b x=>some (.bool x)
  |.i k x=>some (.int k x)
  |.s x=>some (.string ⟨⟨x⟩⟩)
  |.kG=>some (.pointer none)
  |.iq=>some (.slice none 0 0)
  |.rQ=>some (.map none)
  |.AU=>some .nilFunc
  |.vS=>some .nilIface
  |.jL t v=>(AV.toVal n v).map (.iface t)
  |.agg l=>(wY (AV.toVal n) l).map λvs=>.agg ⟨vs⟩
  |.fG l=>(wY (AV.toVal n) l).map λvs=>.tuple ⟨vs⟩
  |_=>none
def oH:Nat->Value->Option AV
 |0,_=>none
 |n+1,v=>
  match v with
  |.bool x=>some (.b x)
  |.int k x=>some (.i k x)
  |.string s=>some (.s s.data.toList)
  |.pointer none=>some .kG
  |.slice none 0 0=>some .iq
  |.map none=>some .rQ
  |.nilFunc=>some .AU
  |.nilIface=>some .vS
  |.iface t x=>(oH n x).map (.jL t)
  |.agg cs=>(wY (oH n) cs.toList).map .agg
  |.tuple cs=>(wY (oH n) cs.toList).map .fG
  |_=>none
def tu{α:Type}(P:Program):Sem α->Option α
 |.pure a=>some a
 |.program k=>tu P (k P)
 |.mark _ k=>tu P k
 |_=>none
structure bM where
 t:Tr AV
 n:Nat
 gn:Nat
def bM.eval(a:bM):Operand->Option AV
 |.tmp t=>a.t.get t
 |.const v=>oH 4 v
 |.global g=>if g<a.gn then some (.p g 0)else none
 |.func f=>some (.fn f [] [])
def bM.put(a:bM)(dst:Option Tmp)(v:Q4):Option bM:=
 match dst with
 |none=>some a
 |some d=>if d<a.n then some {a with t:=a.t.set d v}else none
def AV.cells:AV->List AV
 |.agg l=>l
 |v=>[v]
def AV.ql:AV->Bool
 |.agg _|.fG _=>false
 |_=>true
def Bh(P:Program)(t:TypeId):Option Q3:=
 match P.info? t with
 |some i=>match i.zero with
  |some z=>(oH 4 z).map AV.cells
  |none=>none
 |none=>none
def qp(P:Program)(t:TypeId):Ys:=
 match P.underlying t with
 |some (.struct _)|some (.array _ _)=>some true
 |some _=>some false
 |none=>none
def sizeT(P:Program)(t:TypeId):W2:=(P.info? t).map (·.size)
def takeN(l:Q3)(off n:Nat):Option Q3:=
 let r:=(l.drop off).take n
 if r.length=n then some r else none
def CS(l:Q3)(off:Nat)(vs:Q3):Option Q3:=
 if off+vs.length<=l.length then some (l.take off++vs++l.drop (off+vs.length))else none
def Di(a:Nat->Option (Nat×Nat))(cells:Q3):Wo->Option Q3
 |[]=>some cells
 |(i,v)::rest=>
  match a i with
  |none=>none
  |some (off,size)=>
   if v.cells.length=size then
    match CS cells off v.cells with
    |some cs=>Di a cs rest
    |none=>none
   else none
def H8(a:QQ):List (Nat×Operand)->Option Wo
 |[]=>some []
 |(i,x)::rest=>match a x,H8 a rest with
  |some v,some r=>some ((i,v)::r)
  |_,_=>none
def DF(a:QQ):List Operand->Option Q3
 |[]=>some []
 |x::rest=>match a x,DF a rest with
  |some v,some r=>some (v::r)
  |_,_=>none
def UZ(P:Program)(t:TypeId)(cs:Q3)(off:Nat):Q4:=
 match qp P t with
 |some true=>match sizeT P t with
  |some n=>(takeN cs off n).map .agg
  |none=>none
 |some false=>cs[off]?
 |none=>none
def TF(P:Program):List Field->Option WF
 |[]=>some []
 |f::fs=>match sizeT P f.type,TF P fs with
  |some n,some r=>some ((f.offset,n)::r)
  |_,_=>none
def UL(P:Program)(t:TypeId)(a:Wo):Q4:=
 match Bh P t,P.underlying t with
 |some zero,some (.struct b)=>
  match TF P b.toList with
  |some c=>(Di (λi=>c[i]?) zero a).map .agg
  |none=>none
 |some zero,some (.array _ e)=>
  match sizeT P e with
  |some d=>(Di (λi=>some (i*d,d)) zero a).map .agg
  |none=>none
 |_,_=>none
def ku(n:Nat)(zero:Q3):Q3:=(List.replicate n zero).flatten
def yH(P:Program)(t:TypeId)(J:aC)(a:AV):Q4:=
 match a with
 |.p id b=>
  match J.get id with
  |some (.cells c _ _ _)=>
   match qp P t with
   |some true=>match sizeT P t with
    |some n=>(takeN c b n).map .agg
    |none=>none
   |some false=>c[b]?
   |none=>none
  |_=>none
 |.rp e b=>
  match qp P t with
  |some true=>match sizeT P t with
   |some n=>(takeN e.cells b n).map .agg
   |none=>none
  |some false=>e.cells[b]?
  |none=>none
 |_=>none
def GU(P:Program)(t:TypeId)(J:aC)(a v:AV):Option aC:=
 match a with
 |.p id b=>
  match J.get id with
  |some (.cells c e true d)=>
   if J.lock<=id/\sizeT P t=some v.cells.length/\v.cells.all AV.ql then
    (CS c b v.cells).map λf=>J.put id (.cells f e true d)
   else none
  |_=>none
 |_=>none
def yG:AV->Option Int
 |.i _ n=>some n
 |_=>none
def Dj(len:Nat)(a:Nat->Bool):Q4->Option Nat
 |none=>some len
 |some v=>match yG v with
  |some h=>if 0<=h/\a h.toNat=true then some h.toNat else none
  |none=>none
def Nk(h:Nat):Q4->Option Nat
 |none=>some 0
 |some v=>match yG v with
  |some l=>if 0<=l/\l<=h then some l.toNat else none
  |none=>none
def zL(len:Nat)(a:Nat->Bool)(low b:Q4):Option (Nat×Nat):=
 match Dj len a b with
 |none=>none
 |some h=>match Nk h low with
  |none=>none
  |some l=>some (l,h)
def Le(a:QQ):Option Operand->Option Q4
 |none=>some none
 |some x=>(a x).map some
end
noncomputable section
variable[iI]
def bytesOf:Q3->Option Q0
 |[]=>some []
 |.i .u8 n::rest=>if 0<=n/\n<256 then(bytesOf rest).map (UInt8.ofNat n.toNat::·)else none
 |_::_=>none
def yK(s:Q0):Q3:=s.map λb=>.i .u8 b.toNat
def yZ(a:AV):WD:=a.toVal 4
def yN(P:Program)(t:TypeId):Option (TypeId×Nat×Nat×Q3):=
 match P.underlying t with
 |some (.slice e)=>match P.info? e,Bh P e with
  |some i,some z=>if e≠0/\z.length=i.size then some (e,i.size,i.bytes,z)else none
  |_,_=>none
 |_=>none
def Bd(J:aC)(size:Nat):AV->Option (Nat×Q3)
 |.iq=>some (0,[])
 |.sl id off len _=>match J.get id with
  |some (.cells c _ _ _)=>(takeN c off (len*size)).map λr=>(len,r)
  |_=>none
 |.s x=>if size=1 then some (x.length,yK x)else none
 |.ro l=>if l.all (λa=>a.cells.length==size)=true then some (l.length,l.flatMap AV.cells)else none
 |_=>none
def Il(P:Program)(t:TypeId):Bool:=
 match P.underlying t with
 |some (.slice _)|some .string=>true
 |_=>false
def sliceLen:AV->Nat
 |.sl _ _ n _=>n
 |_=>0
def su(e size bytes:Nat)(s:AV)(n:Nat)(new:Q3)(J:aC):Wf:=
 if size=0\/new.all AV.ql=false\/¬(2*(sliceLen s+n)*bytes<=2^48/\sliceLen s+n<=2^48)then none else
 match s with
 |.iq=>if n=0 then some (.iq,J)else some (.sl J.next 0 n none,J.new (.cells new e true true))
 |.sl id a len (some d)=>
  if len+n<=d then
   if n=0 then some (s,J)else
   match J.get id with
   |some (.cells c f true g)=>
    if J.lock<=id then
     (CS c (a+len*size) new).map λh=>(.sl id a (len+n) (some d),J.put id (.cells h f true g))
    else none
   |_=>none
  else
   match J.get id with
   |some (.cells c _ _ _)=>(takeN c a (len*size)).map λb=>(.sl J.next 0 (len+n) none,J.new (.cells (b++new) e true true))
   |_=>none
 |.sl id a len none=>
  if n=0 then some (s,J)
  else if J.lock<=id then
   match J.get id with
   |some (.cells c f true true)=>if f=e then(takeN c a (len*size)).map λb=>(.sl J.next 0 (len+n) none,(J.kill id).new (.cells (b++new) e true true))else none
   |_=>none
  else none
 |.ro l=>if n=0 then some (.ro l,J)else none
 |_=>none
def Zx(P:Program)(a:Ww)(s x:AV)(J:aC):Wf:=
 match a.toList with
 |[t,c]=>
  match yN P t,Il P c with
  |some (e,b,bytes,_),true=>
   match Bd J b x with
   |some (n,new)=>su e b bytes s n new J
   |none=>none
  |_,_=>none
 |_=>none
def UO(P:Program)(J:aC)(t:TypeId)(x:AV):Q4:=
 match P.underlying t,x with
 |some .string,.s s=>some (.i .i64 s.length)
 |some (.slice _),.iq=>some (.i .i64 0)
 |some (.slice _),.sl _ _ n _=>some (.i .i64 n)
 |some (.slice _),.ro l=>some (.i .i64 l.length)
 |some (.map _ _),.rQ=>some (.i .i64 0)
 |some (.map _ _),.mp id=>match J.get id with
  |some (.map es)=>some (.i .i64 es.length)
  |_=>none
 |some (.array n _),_=>some (.i .i64 n)
 |_,_=>none
def UR(P:Program)(t:TypeId)(len cap:AV)(J:aC):Wf:=
 match yN P t,yG len,yG cap with
 |some (e,a,bytes,z),some l,some c=>
  if 0<=l/\l<=c/\bytes*c<=2^48/\c<=2^60 then
   some (.sl J.next 0 l.toNat (some c.toNat),J.new (.cells (if a=0 then[]else ku c.toNat z) e true false))
  else none
 |_,_,_=>none
def U0(size:Nat)(es:Q3)(l h:Nat):Q4:=
 if h=l then some (.ro [])else
 match es[0]? with
 |some a=>if a.cells.length=size then some (.ro ((es.take h).drop l))else none
 |none=>none
def Dp(P:Program)(t:TypeId)(J:aC)(x:AV)(lo hi:Q4):Q4:=
 match P.underlying t,x with
 |some .string,.s s=>(zL s.length (λh=>Nat.ble h s.length) lo hi).map λ(l,h)=>.s ((s.take h).drop l)
 |some (.slice e),.sl id b len d=>
  match sizeT P e,d with
  |some a,some c=>
   (zL len (λh=>Nat.ble h c) lo hi).bind λ(l,h)=>
    if c=l then some (.sl id b (h-l) (some 0))else some (.sl id (b+l*a) (h-l) (some (c-l)))
  |some a,none=>
   match J.get id with
   |some (.cells _ f _ true)=>if f=e then
     (zL len (λh=>Nat.ble h len) lo hi).bind λ(l,h)=>
      if l<len then some (.sl id (b+l*a) (h-l) none)else if l=0 then some (.sl id b (h-l) none)else if h=l then some (.ro [])else none
    else none
   |_=>none
  |none,_=>none
 |some (.slice e),.iq=>match sizeT P e with
  |some _=>(zL 0 (λh=>Nat.ble h 0) lo hi).map λ_=>.iq
  |none=>none
 |some (.slice e),.ro es=>match sizeT P e with
  |some a=>(zL es.length (λh=>Nat.ble h es.length) lo hi).bind λ(l,h)=>U0 a es l h
  |none=>none
 |some (.array n e),.p id b=>match sizeT P e with
  |some a=>(zL n (λh=>Nat.ble h n) lo hi).map λ(l,h)=>
    if n=l then .sl id b (h-l) (some 0)else .sl id (b+l*a) (h-l) (some (n-l))
  |none=>none
 |_,_=>none
def UN(P:Program)(t:TypeId)(x:AV)(f:Nat):Q4:=
 match P.underlying t,x with
 |some (.struct b),.p id c=>
  match b[f]? with
  |some d=>match sizeT P d.type with
   |some n=>if n=0 then none else some (.p id (c+d.offset))
   |none=>none
  |none=>none
 |some (.struct b),.rp a c=>
  match b[f]? with
  |some d=>match sizeT P d.type with
   |some n=>if n=0 then none else some (.rp a (c+d.offset))
   |none=>none
  |none=>none
 |_,_=>none
def UM(P:Program)(t:TypeId)(x:AV)(f:Nat):Q4:=
 match P.underlying t,x with
 |some (.struct a),.agg c=>
  match a[f]? with
  |some b=>UZ P b.type c b.offset
  |none=>none
 |_,_=>none
def Ar(P:Program)(t:TypeId)(x d:AV):Q4:=
 match P.underlying t,x,yG d with
 |some (.slice e),.sl id c len _,some k=>
  match sizeT P e with
  |some b=>if 0<=k/\k<len then some (.p id (c+k.toNat*b))else none
  |none=>none
 |some (.array len e),.p id c,some k=>
  match sizeT P e with
  |some b=>if 0<=k/\k<len then some (.p id (c+k.toNat*b))else none
  |none=>none
 |some (.slice e),.ro l,some k=>
  match sizeT P e with
  |some b=>if 0<=k then match l[k.toNat]? with
   |some a=>if a.cells.length=b then some (.rp a 0)else none
   |none=>none
   else none
  |none=>none
 |some (.array len e),.rp a c,some k=>
  match sizeT P e with
  |some b=>if 0<=k/\k<len then some (.rp a (c+k.toNat*b))else none
  |none=>none
 |_,_,_=>none
def GN(P:Program)(t:TypeId)(x b:AV):Q4:=
 match P.underlying t,x,yG b with
 |some .string,.s s,some k=>
  if 0<=k then match s[k.toNat]? with
   |some c=>some (.i .u8 c.toNat)
   |none=>none
  else none
 |some (.array len e),.agg d,some k=>
  match sizeT P e with
  |some a=>if 0<=k/\k<len then UZ P e d (k.toNat*a)else none
  |none=>none
 |_,_,_=>none
def Aq(P:Program)(src dst:TypeId)(x:AV)(J:aC):Wf:=
 match P.underlying src,P.underlying dst,x with
 |some _,some (.int k),.i _ n=>some (.i k (k.wrap n),J)
 |some .string,some .string,.s s=>some (.s s,J)
 |some .string,some (.slice e),.s s=>
  match P.underlying e with
  |some (.int .u8)=>if e≠0/\sizeT P e=some 1 then some (.sl J.next 0 s.length none,J.new (.cells (yK s) e true true))else none
  |_=>none
 |some (.slice e),some .string,.iq=>
  match P.underlying e with
  |some (.int .u8)=>some (.s [],J)
  |_=>none
 |some (.slice e),some .string,.sl id a len _=>
  match P.underlying e,J.get id with
  |some (.int .u8),some (.cells c _ _ _)=>match takeN c a len with
   |some r=>(bytesOf r).map λb=>(.s b,J)
   |none=>none
  |_,_=>none
 |some (.slice e),some .string,.ro l=>
  match P.underlying e with
  |some (.int .u8)=>(bytesOf l).map λb=>(.s b,J)
  |_=>none
 |some (.pointer t),some .unsafePointer,.p id a=>
  match J.get id,sizeT P t with
  |some (.cells c d _ false),some n=>if d≠0/\a<c.length/\n≠0 then some (.p id a,J)else none
  |_,_=>none
 |some .unsafePointer,some (.pointer u),.p id a=>
  match J.get id,sizeT P u with
  |some (.cells c d _ false),some _=>if d≠0/\liesAt P P.depth d (c.length/P.cellsOf d) a u 1=true then some (.p id a,J)else none
  |_,_=>none
 |_,_,_=>none
def Vy(e:BinOp)(a b c d:Int):Q4:=
 match e with
 |.lss=>if b<c then some (.b true)else if d<=a then some (.b false)else none
 |.leq=>if b<=c then some (.b true)else if d<a then some (.b false)else none
 |.gtr=>if d<a then some (.b true)else if b<=c then some (.b false)else none
 |.geq=>if d<=a then some (.b true)else if b<c then some (.b false)else none
 |.eql=>if b<c\/d<a then some (.b false)else none
 |.neq=>if b<c\/d<a then some (.b true)else none
 |_=>none
def wG(P:Program)(g:BinOp)(t:TypeId)(x y:Operand)(a b:AV):Q4:=
 match g,a,b with
 |.eql,.p id d,.p f c=>match P.underlying t with
  |some (.pointer e)=>match sizeT P e with
   |some n=>if id=f/\n≠0 then some (.b (d==c))else none
   |none=>none
  |_=>none
 |.neq,.p id d,.p f c=>match P.underlying t with
  |some (.pointer e)=>match sizeT P e with
   |some n=>if id=f/\n≠0 then some (.b (!(d==c)))else none
   |none=>none
  |_=>none
 |.eql,.p _ _,.kG|.eql,.kG,.p _ _=>match P.underlying t with
  |some (.pointer _)=>some (.b false)
  |_=>none
 |.neq,.p _ _,.kG|.neq,.kG,.p _ _=>match P.underlying t with
  |some (.pointer _)=>some (.b true)
  |_=>none
 |.eql,.ro (_::_),.iq|.eql,.iq,.ro (_::_)=>match P.underlying t with
  |some (.slice _)=>some (.b false)
  |_=>none
 |.neq,.ro (_::_),.iq|.neq,.iq,.ro (_::_)=>match P.underlying t with
  |some (.slice _)=>some (.b true)
  |_=>none
 |.eql,.rp _ _,.kG|.eql,.kG,.rp _ _=>match P.underlying t with
  |some (.pointer _)=>some (.b false)
  |_=>none
 |.neq,.rp _ _,.kG|.neq,.kG,.rp _ _=>match P.underlying t with
  |some (.pointer _)=>some (.b true)
  |_=>none
 |.eql,.sl ..,.iq|.eql,.iq,.sl ..=>match P.underlying t with
  |some (.slice _)=>some (.b false)
  |_=>none
 |.neq,.sl ..,.iq|.neq,.iq,.sl ..=>match P.underlying t with
  |some (.slice _)=>some (.b true)
  |_=>none
 |.eql,.jL _ _,.vS|.eql,.vS,.jL _ _=>match P.underlying t with
  |some (.interface _)=>some (.b false)
  |_=>none
 |.neq,.jL _ _,.vS|.neq,.vS,.jL _ _=>match P.underlying t with
  |some (.interface _)=>some (.b true)
  |_=>none
 |.eql,.mp _,.rQ|.eql,.rQ,.mp _=>match P.underlying t with
  |some (.map _ _)=>some (.b false)
  |_=>none
 |.neq,.mp _,.rQ|.neq,.rQ,.mp _=>match P.underlying t with
  |some (.map _ _)=>some (.b true)
  |_=>none
 |_,.z k lo hi,.i h n=>if k=h then Vy g lo hi n n else none
 |_,.i k n,.z h lo hi=>if k=h then Vy g n n lo hi else none
 |_,_,_=>
  match yZ a,yZ b with
  |some u,some v=>(tu P (do eqGuard g t x y u v;binOp g t u v)).bind (oH 4)
  |_,_=>none
def abA:AV->AV->Option Bool
 |.i k a,.i c b=>if k=c then some (a==b)else none
 |.s a,.s b=>some (a==b)
 |.b a,.b b=>some (a==b)
 |.z k lo hi,.i c b=>if k=c/\(b<lo\/hi<b)then some false else none
 |_,_=>none
def J3(k:AV):XX->Nat->Option (Option (Nat×AV))
 |[],_=>some none
 |e::es,i=>match abA k e.1 with
  |some true=>some (some (i,e.2))
  |some false=>J3 k es (i+1)
  |none=>none
def V9(P:Program)(t:TypeId)(k:AV):Bool:=
 match P.underlying t,k with
 |some (.int _),.i _ _|some (.int _),.z _ _ _|some .string,.s _|some .bool,.b _=>true
 |_,_=>false
def UQ(P:Program)(t:TypeId)(m k:AV)(ok:Bool)(J:aC):Q4:=
 match P.underlying t with
 |some (.map a b)=>
  match(match m with|.rQ=>some []|.mp id=>(match J.get id with|some (.map es)=>some es|_=>none)|_=>none)with
  |some es=>
   if V9 P a k then
    match J3 k es 0 with
    |some (some (_,v))=>some (if ok then .fG [v,.b true]else v)
    |some none=>
     match P.info? b with
     |some i=>match i.zero with
      |some z=>(oH 4 z).map λz=>if ok then .fG [z,.b false]else z
      |none=>none
     |none=>none
    |none=>none
   else none
  |none=>none
 |_=>none
def UU(P:Program)(t:TypeId)(m k v:AV)(J:aC):Option aC:=
 match P.underlying t,m with
 |some (.map a _),.mp id=>
  match J.get id with
  |some (.map es)=>
   if J.lock<=id/\V9 P a k then
    match J3 k es 0 with
    |some (some (i,_))=>some (J.put id (.map (es.set i (k,v))))
    |some none=>some (J.put id (.map (es++[(k,v)])))
    |none=>none
   else none
  |_=>none
 |_,_=>none
def Kw(P:Program)(t:TypeId):Ys:=
 match P.underlying t with
 |some (.interface _)=>some true
 |some _=>some false
 |none=>none
def U1(P:Program)(x:AV)(t:TypeId)(ok:Bool):Q4:=
 match Kw P t,x with
 |some false,.jL u v=>
  if u=t then some (if ok then .fG [v,.b true]else v)
  else if ok then match P.info? t with
   |some i=>match i.zero with
    |some z=>(oH 4 z).map λz=>.fG [z,.b false]
    |none=>none
   |none=>none
  else none
 |some false,.vS=>
  if ok then match P.info? t with
   |some i=>match i.zero with
    |some z=>(oH 4 z).map λz=>.fG [z,.b false]
    |none=>none
   |none=>none
  else none
 |_,_=>none
def UY(it:AV)(J:aC):Wf:=
 match it with
 |.p id 0=>
  match J.get id with
  |some (.iter s pos)=>
   if J.lock<=id then
    if pos<s.length then
     let r:=Utf8.decode ⟨⟨s⟩⟩ pos
     some (.fG [.b true,.i .i64 pos,.i .i32 r.1],J.put id (.iter s (pos+r.2)))
    else some (.fG [.b false],J)
   else none
  |_=>none
 |_=>none
def Zz(P:Program)(b:Ww)(d x:AV)(J:aC):Wf:=
 match b[0]? with
 |some t=>
  match yN P t,d with
  |some (_,a,_,_),.sl id f e _=>
   match Bd J a x,J.get id with
   |some (n,new),some (.cells c h true g)=>
    let k:=Nat.min n e
    if a=0 then none else
    if J.lock<=id/\new.all AV.ql then
     (CS c f (new.take (k*a))).map λi=>(.i .i64 k,J.put id (.cells i h true g))
    else none
   |_,_=>none
  |some (_,a,_,_),.iq=>match Bd J a x with
   |some _=>some (.i .i64 0,J)
   |none=>none
  |_,_=>none
 |none=>none
def Zy(P:Program)(t:TypeId)(x:AV)(J:aC):Wf:=
 match P.underlying t,x with
 |some (.slice _),.iq=>some (.fG [],J)
 |some (.slice _),.ro []=>some (.fG [],J)
 |some (.slice e),.sl id a n _=>
  if n=0 then some (.fG [],J)else
  match Bh P e,J.get id with
  |some z,some (.cells c d true b)=>
   if J.lock<=id/\z.all AV.ql then
    (CS c a (ku n z)).map λf=>(.fG [],J.put id (.cells f d true b))
   else none
  |_,_=>none
 |some (.map _ _),.rQ=>some (.fG [],J)
 |some (.map _ _),.mp id=>match J.get id with
  |some (.map _)=>if J.lock<=id then some (.fG [],J.put id (.map []))else none
  |_=>none
 |_,_=>none
def aas(m c:Nat):Bool:=match iI.nodes[m]?,iI.nodes[c]? with
 |some (.ci k a),some (.ci d b)=>Nat.beq (kc k) (kc d)&&!(Kv a b)
 |some (.cs a),some (.cs b)=>!(Du a b)
 |_,_=>false
def IC(n m:Nat):Wk->Bool
 |[]=>false
 |p::l=>(bif p.2 then(match iI.nodes[p.1]? with
  |some (.bin .eql a b)=>Nat.beq n a&&aas m b
  |_=>false)else false) ||IC n m l
def Hw:BinOp->Option BinOp
 |.eql=>some .neq
 |.neq=>some .eql
 |.lss=>some .geq
 |.geq=>some .lss
 |.leq=>some .gtr
 |.gtr=>some .leq
 |_=>none
def NP(c n m:Nat):Wk->Option Bool
 |[]=>none
 |p::l=>match iI.nodes[p.1]? with
  |some (.bin a b d)=>bif Nat.beq n b&&Nat.beq m d&&Nat.beq (xX a) c then some p.2 else NP c n m l
  |_=>NP c n m l
def Tq(c:BinOp)(n m:Nat):Ys:=match Hw c with
 |some a=>(NP (xX a) n m iI.dec).map λb=>!b
 |none=>none
def adt(x:Nd):Ys:=match x with
 |.bin .eql n m=>bif IC n m iI.dec then some false else Tq .eql n m
 |.bin .neq n m=>bif IC n m iI.dec then some true else Tq .neq n m
 |.bin a n m=>Tq a n m
 |_=>none
def lS(x:Nd):Q4:=
 match gI x with
 |some n=>match aaw n with
  |some b=>some (.b b)
  |none=>match adt x with
   |some b=>some (.b b)
   |none=>some (.nd n)
 |none=>none
def jD:AV->Option Nat
 |.nd n=>some n
 |.i k n=>gI (.ci k n)
 |.b x=>gI (.cb x)
 |.s x=>gI (.cs x)
 |.iq=>gI (.ml [])
 |_=>none
def nodesOf:Q3->Option Q2
 |[]=>some []
 |a::l=>match jD a,nodesOf l with
  |some n,some r=>some (n::r)
  |_,_=>none
def GX:AV->Option Nat
 |.agg l=>match nodesOf l with
  |some a=>gI (.mk a)
  |none=>none
 |_=>none
def x9:Nat->Nat->Nat->Bool
 |0,m,n=>Nat.beq m n
 |f+1,m,n=>Nat.beq m n ||match iI.nodes[m]? with
  |some (.upd _ _ a _ _)=>x9 f a n
  |some (.same a _)=>x9 f a n
  |_=>false
def elemsOf(agg:Bool)(size:Nat):Nat->List AV->Option Q2
 |0,_=>some []
 |n+1,cs=>match(if agg then GX (.agg (cs.take size))else(cs.head?).bind jD),elemsOf agg size n (cs.drop size)with
  |some a,some r=>some (a::r)
  |_,_=>none
def listOf(P:Program)(J:aC)(e:TypeId):AV->Option Nat
 |.nd n=>some n
 |.iq=>gI (.ml [])
 |.sv id n=>match J.get id with
  |some (.vec m et _)=>if Nat.beq e et&&x9 100 m n then some m else none
  |_=>none
 |.sl id off len _=>match J.get id,sizeT P e,qp P e with
  |some (.cells c et _ _),some size,some agg=>if Nat.beq e et&&((agg&&Nat.blt 0 size) ||Nat.beq size 1)then match takeN c off (len*size)with
   |some cs=>match elemsOf agg size len cs with
    |some a=>gI (.ml a)
    |none=>none
   |none=>none
   else none
  |_,_,_=>none
 |_=>none
def awE(a:AV):Bool:=
 match a with
 |.nd _|.rx _ _|.sv _ _|.pv _ _ _|.pd _ _=>true
 |_=>false
def ac2(P:Program)(t:TypeId):W2:=
 match P.underlying t with
 |some (.int _)=>some 0
 |some .string=>some 1
 |some .bool=>some 2
 |_=>none
def OZ(P:Program):List Field->Nat->Option Q2
 |[],_=>some []
 |f::fs,k=>if !(f.name == "_")&&Nat.beq f.offset k then match ac2 P f.type,OZ P fs (k+1)with
  |some a,some r=>some (a::r)
  |_,_=>none
  else none
def YB(P:Program)(c:BinOp)(t:TypeId)(a b:AV):Q4:=
 match P.underlying t with
 |some (.int _)|some .string=>match jD a,jD b with
  |some x,some y=>lS (.bin c x y)
  |_,_=>none
 |some .bool=>match jD a,jD b with
  |some x,some y=>lS (.G7 c x y)
  |_,_=>none
 |some (.struct d)=>if !(P.stoodInHeld t)&&!(P.eqGuardType P.depth t)then match OZ P d.toList 0,GX a,GX b with
   |some e,some x,some y=>lS (.G8 c e x y)
   |_,_,_=>none
  else none
 |some (.pointer _)=>match c,a,b with
  |.eql,.rx _ _,.kG|.eql,.kG,.rx _ _=>some (.b false)
  |.neq,.rx _ _,.kG|.neq,.kG,.rx _ _=>some (.b true)
  |.eql,.pv _ _ _,.kG|.eql,.kG,.pv _ _ _=>some (.b false)
  |.neq,.pv _ _ _,.kG|.neq,.kG,.pv _ _ _=>some (.b true)
  |_,_,_=>none
 |_=>none
def PO(b:UnOp)(a:AV):Q4:=
 match a with
 |.nd n=>lS (.un b n)
 |_=>none
def YC(P:Program)(src dst:TypeId)(x:AV)(J:aC):Wf:=
 match P.underlying src,P.underlying dst,x with
 |some _,some (.int k),.nd n=>(lS (.conv k n)).map (·,J)
 |some .string,some .string,.nd n=>(lS (.IV n)).map (·,J)
 |some .string,some (.slice e),.nd n=>
  match P.underlying e with
  |some (.int .u8)=>if e≠0/\sizeT P e=some 1 then match gI (.bytes n)with
    |some m=>some (.sv J.next m,J.new (.vec m e false))
    |none=>none
   else none
  |_=>none
 |some (.slice e),some .string,x=>
  match P.underlying e with
  |some (.int .u8)=>match listOf P J e x with
    |some m=>(lS (.str m)).map (·,J)
    |none=>none
  |_=>none
 |_,_,_=>none
def adS(P:Program)(t:TypeId)(x:AV):Q4:=
 match P.underlying t,x with
 |some .string,.nd n=>lS (.slen n)
 |some (.slice _),.nd n=>lS (.len n)
 |some (.slice _),.sv _ n=>lS (.len n)
 |_,_=>none
def dB(a:Q4):Q4:=
 match a with
 |some (.nd n)=>match aaw n with
  |some b=>some (.b b)
  |none=>none
 |x=>x
def KE(i:Nat):Nat->Nat->Option AV
 |0,_=>none
 |c+1,j=>match lS (.Cb i j)with
  |some (.b true)=>some (.i .i64 j)
  |some (.b false)=>KE i c (j+1)
  |some (.nd m)=>match dB (some (.nd m))with
   |some (.b true)=>some (.i .i64 j)
   |some (.b false)=>KE i c (j+1)
   |_=>none
  |_=>none
def YE(P:Program)(t:TypeId)(x a:AV):Q4:=
 match P.underlying t with
 |some .string=>match jD x,jD a with
  |some n,some i=>lS (.IW n i)
  |_,_=>none
 |some (.array len _)=>match jD a with
  |some i=>match KE i len 0 with
   |some k=>GN P t x k
   |none=>none
  |none=>none
 |_=>none
def Qx:Q4->Option Nat
 |none=>gI (.ci .i64 0)
 |some a=>jD a
def Vb(x:Nd):Q4->Option Nat
 |none=>gI x
 |some a=>jD a
def TN(P:Program)(t:TypeId)(x:AV)(lo hi:Q4):Q4:=
 match P.underlying t with
 |some .string=>match jD x with
  |some n=>match Qx lo,Vb (.slen n) hi with
   |some l,some h=>lS (.IX n l h)
   |_,_=>none
  |none=>none
 |some (.slice e)=>match x,sizeT P e with
  |.nd n,some a=>match Qx lo,Vb (.len n) hi with
   |some l,some h=>lS (.FI a n l h)
   |_,_=>none
  |_,_=>none
 |_=>none
def YK(P:Program)(t:TypeId)(J:aC)(x:AV)(lo hi:Q4):Wf:=
 match P.underlying t,x with
 |some (.slice e),.sv id n=>match J.get id,sizeT P e with
  |some (.vec m b f),some a=>if Nat.beq e b&&x9 100 m n&&Nat.ble J.lock id then
    match lo with
    |none=>match Qx none,Vb (.len m) hi with
     |some z,some h=>(gI (.FI a m z h)).map λk=>(.sv id k,J.put id (.vec k b f))
     |_,_=>none
    |some _=>(TN P t (.nd m) lo hi).map (·,J.kill id)
   else none
  |_,_=>none
 |_,_=>none
def YD(P:Program)(t:TypeId)(x:AV)(f:Nat):Q4:=
 match P.underlying t with
 |some (.struct a)=>
  match a[f]? with
  |some c=>match sizeT P c.type with
   |some n=>if n=0 then none else match x with
    |.rx m b=>some (.rx m (b+c.offset))
    |.pv id m b=>some (.pv id m (b+c.offset))
    |_=>none
   |none=>none
  |none=>none
 |_=>none
def YF(P:Program)(J:aC)(t:TypeId)(x b:AV):Q4:=
 match P.underlying t with
 |some (.slice e)=>match sizeT P e,jD b with
  |some a,some i=>match x with
   |.nd n=>(gI (.at a n i)).map λm=>.rx m 0
   |.sv id n=>match J.get id with
    |some (.vec _ c _)=>if Nat.beq e c then(gI (.idx n i)).map λm=>.pv id m 0 else none
    |_=>none
   |.sl _ _ len _=>match KE i len 0 with
    |some k=>Ar P t x k
    |none=>none
   |_=>none
  |_,_=>none
 |some (.array len _)=>match jD b with
  |some i=>match KE i len 0 with
   |some k=>Ar P t x k
   |none=>none
  |none=>none
 |_=>none
def JJ(m:Nat):Nat->Nat->Option Q3
 |_,0=>some []
 |off,n+1=>match lS (.cell off m),JJ m (off+1) n with
  |some a,some r=>some (a::r)
  |_,_=>none
def TM(P:Program)(t:TypeId)(m off:Nat):Q4:=
 match qp P t with
 |some true=>match sizeT P t with
  |some n=>(JJ m off n).map .agg
  |none=>none
 |some false=>lS (.cell off m)
 |none=>none
def YG(P:Program)(t:TypeId)(J:aC)(a:AV):Q4:=
 match a with
 |.rx m b=>TM P t m b
 |.pv id i b=>match J.get id with
  |some (.vec m d _)=>match sizeT P d with
   |some c=>match gI (.at c m i)with
    |some x=>TM P t x b
    |none=>none
   |none=>none
  |_=>none
 |_=>none
def RH(P:Program)(b:TypeId)(k:AV):Option (Nat×Wg):=
 match P.underlying b,jD k with
 |some (.int a),some n=>match gI (.ci a 0)with
  |some z=>(gI (.bin .eql n z)).map λ_=>(n,some a)
  |none=>none
 |some .string,some n=>match gI (.cs [])with
  |some z=>(gI (.bin .eql n z)).map λ_=>(n,none)
  |none=>none
 |_,_=>none
def abB(n:Nat)(e:AV):Ys:=
 match jD e with
 |some m=>match(lS (.bin .eql n m))with
  |some (.b b)=>some b
  |some (.nd j)=>match dB (some (.nd j))with
   |some (.b b)=>some b
   |_=>none
  |_=>none
 |none=>none
def N8(n:Nat):XX->Nat->Option (Option (Nat×AV))
 |[],_=>some none
 |e::es,i=>match abB n e.1 with
  |some true=>some (some (i,e.2))
  |some false=>N8 n es (i+1)
  |none=>none
def Ua(P:Program)(et:TypeId)(v:AV):Option (Nat×W2):=
 match qp P et with
 |some true=>match GX v,sizeT P et with
  |some n,some k=>if Nat.beq v.cells.length k then some (n,some k)else none
  |_,_=>none
 |some false=>(jD v).map (·,none)
 |none=>none
def Oy:Wg->Option IntKind->Bool
 |none,none=>true
 |some a,some b=>Nat.beq (kc a) (kc b)
 |_,_=>false
def TP:W2->Option Nat->Bool
 |none,none=>true
 |some a,some b=>Nat.beq a b
 |_,_=>false
def Uh(P:Program)(et:TypeId):Q4:=
 match P.info? et with
 |some i=>match i.zero with
  |some z=>oH 4 z
  |none=>none
 |none=>none
def YH(P:Program)(t:TypeId)(m k:AV)(ok:Bool)(J:aC):Q4:=
 match P.underlying t,m with
 |some (.map f a),.mp id=>
  match RH P f k,J.get id with
  |some (n,_),some (.map es)=>match N8 n es 0 with
   |some (some (_,v))=>some (if ok then .fG [v,.b true]else v)
   |some none=>(Uh P a).map λz=>if ok then .fG [z,.b false]else z
   |none=>none
  |some (n,c),some (.pmap es)=>
   if Oy c none then match N8 n (es.map λe=>(AV.s e.1,e.2)) 0 with
    |some (some (_,v))=>some (if ok then .fG [v,.b true]else v)
    |some none=>(Uh P a).map λz=>if ok then .fG [z,.b false]else z
    |none=>none
   else none
  |some (n,c),some (.smap j h i)=>
   if Oy c h then match(Uh P a).bind (Ua P a)with
    |some (z,d)=>if TP i d then match(gI (.Iw z j n)).bind λg=>TM P a g 0 with
     |some v=>if ok then match lS (.Iy j n)with
       |some b=>some (.fG [v,b])
       |none=>none
      else some v
     |none=>none
     else none
    |none=>none
   else none
  |_,_=>none
 |_,_=>none
def YJ(P:Program)(t:TypeId)(m k v:AV)(J:aC):Option aC:=
 match P.underlying t,m with
 |some (.map e f),.mp id=>
  if Nat.ble J.lock id then
   match RH P e k,Ua P f v,J.get id with
   |some (n,a),some (u,b),some (.map [])=>match gI (.ml [])with
    |some j=>(gI (.DU j n u)).map λc=>J.put id (.smap c a b)
    |none=>none
   |some (n,a),some (u,b),some (.smap j g d)=>if Oy a g&&TP b d then(gI (.DU j n u)).map λc=>J.put id (.smap c a b)else none
   |_,_,_=>none
  else none
 |_,_=>none
def mapArg(v:AV):Bool:=match v with
 |.nd n=>(match iI.nodes[n]? with
  |some (.len _)=>true
  |_=>false)
 |v=>(yG v).isSome
def YL(P:Program)(t:TypeId)(J:aC)(a v:AV):Option aC:=
 match a with
 |.pv id i c=>match J.get id with
  |some (.vec m d f)=>
   if J.lock<=id/\sizeT P t=some v.cells.length then
    match sizeT P d,nodesOf v.cells with
    |some b,some e=>match gI (.upd b c m i e)with
     |some g=>some (J.put id (.vec g d f))
     |none=>none
    |_,_=>none
   else none
  |_=>none
 |_=>none
def adQ(P:Program)(g:Ww)(s x:AV)(J:aC):Wf:=
 match g.toList with
 |[t,i]=>
  match yN P t with
  |some (e,d,bytes,_)=>
   if d=0 then none else
   match(match P.underlying i with
    |some .string=>if d=1 then match jD x with
      |some n=>gI (.bytes n)
      |none=>none
     else none
    |some (.slice _)=>listOf P J e x
    |_=>none)with
   |none=>none
   |some b=>
    match s with
    |.iq=>match gI (.ml [])with
     |some a=>(gI (.app d bytes a b)).map λm=>(.sv J.next m,J.new (.vec m e true))
     |none=>none
    |.sv id n=>match J.get id with
     |some (.vec a h f)=>if Nat.beq h e&&x9 100 a n&&Nat.ble J.lock id then(gI (.app d bytes a b)).map λm=>(.sv J.next m,(J.kill id).new (.vec m e f))else none
     |_=>none
    |.sl id 0 0 (some 0)=>match J.get id with
     |some (.cells [] h true false)=>if Nat.beq h e&&Nat.ble J.lock id then match gI (.ml [])with
      |some a=>(gI (.app d bytes a b)).map λm=>(.sv J.next m,(J.kill id).new (.vec m e false))
      |none=>none
      else none
     |_=>none
    |.sl id 0 len none=>match J.get id with
     |some (.cells c h true true)=>if Nat.beq h e&&Nat.ble J.lock id&&Nat.beq c.length (len*d)then match listOf P J e (.sl id 0 len none)with
      |some a=>(gI (.app d bytes a b)).map λm=>(.sv J.next m,(J.kill id).new (.vec m e false))
      |none=>none
      else none
     |_=>none
    |_=>none
  |none=>none
 |_=>none
def Xl(P:Program)(e:TypeId)(size len:Nat)(cs:Q3):W2:=
 if cs.any awE then
  match qp P e with
  |some a=>if((a&&Nat.blt 0 size) ||Nat.beq size 1)&&Nat.blt 0 len&&Nat.beq cs.length (len*size)then match elemsOf a size len cs with
   |some b=>gI (.ml b)
   |none=>none
   else none
  |none=>none
 else none
def Xm(P:Program)(J:aC)(e:TypeId)(size len:Nat)(cs:Q3):Q4×aC:=
 match Xl P e size len cs with
 |some m=>(some (.sv J.next m),J.new (.vec m e false))
 |none=>(some (.sl J.next 0 len (some len)),J.new (.cells cs e true false))
def YI(P:Program)(t:TypeId)(len cap:AV)(J:aC):Wf:=
 match P.underlying t with
 |some (.slice d)=>match yN P t,qp P d with
  |some (e,a,bytes,z),some b=>
   if a=0 then none else
   match(if b then GX (.agg z)else(z.head?).bind jD),jD len,jD cap with
   |some f,some l,some c=>(gI (.rep a bytes f l c)).map λm=>(.sv J.next m,J.new (.vec m e false))
   |_,_,_=>none
  |_,_=>none
 |_=>none
def LU(P:Program)(b:Builtin)(a:Ww)(args:Q3)(J:aC):W5:=
 match b,args with
 |.len,[x]=>match a[0]? with
  |some t=>(adS P t x).map λv=>(some v,J)
  |none=>none
 |.append,[s,x]=>(adQ P a s x J).map λr=>(some r.1,r.2)
 |.min,[x,y]=>match jD x,jD y with
  |some m,some n=>(lS (.mm false m n)).map λv=>(some v,J)
  |_,_=>none
 |.max,[x,y]=>match jD x,jD y with
  |some m,some n=>(lS (.mm true m n)).map λv=>(some v,J)
  |_,_=>none
 |.unsafeSliceData,[.sv id n]=>match J.get id with
  |some (.vec m _ true)=>if x9 100 m n then some (some (.pd id n),J)else none
  |_=>none
 |.unsafeString,[.pd id n,.nd k]=>
  match a.toList with
  |[t,_]=>
   match P.underlying t,J.get id with
   |some (.pointer e),some (.vec m c _)=>
    if c=e/\e≠0/\P.cellsOf e=1/\J.lock<=id then
     match iI.nodes[k]? with
     |some (.len d)=>if x9 100 m n&&x9 100 m d then(lS (.str m)).map λv=>(some v,J.kill id)else none
     |_=>none
    else none
   |_,_=>none
  |_=>none
 |_,_=>none
def UW(P:Program)(a:String)(J:aC):AV->Option (FuncId×AV)
 |.jL t v=>
  match P.info? t,P.underlying t with
  |some i,some d=>match i.methods.find? (·.name==a)with
   |some m=>match m.path.toList,m.func with
    |[],some (f,b)=>match d,b with
     |.pointer _,true=>some (f,v)
     |.pointer e,false=>match v with
      |.p id off=>(yH P e J (.p id off)).map λx=>(f,x)
      |_=>none
     |_,true=>none
     |_,false=>some (f,v)
    |_,_=>none
   |none=>none
  |_,_=>none
 |_=>none
abbrev Caller:=FuncId->List AV->aC->Option (AV×aC)
def fH(J:aC):Q4->Option (Q4×aC):=Option.map λv=>(some v,J)
def vU:Wf->Option (Q4×aC):=Option.map λ(v,J)=>(some v,J)
def O8:Option aC->Option (Q4×aC):=Option.map λJ=>(none,J)
def Jr(P:Program)(b:Builtin)(a:Ww)(args:Q3)(J:aC):W5:=
 match b,args with
 |.len,[x]=>match a[0]? with
  |some t=>fH J (UO P J t x)
  |none=>none
 |.append,[s,x]=>vU (Zx P a s x J)
 |.copy,[d,x]=>vU (Zz P a d x J)
 |.clear,[x]=>match a[0]? with
  |some t=>vU (Zy P t x J)
  |none=>none
 |.cap,[x]=>match a[0]? with
  |some t=>match P.underlying t,x with
   |some (.slice _),.iq=>fH J (some (.i .i64 0))
   |some (.slice _),.sl _ _ _ (some c)=>fH J (some (.i .i64 c))
   |_,_=>none
  |none=>none
 |.unsafeSliceData,[.iq]=>fH J (some .kG)
 |.unsafeSliceData,[.sl id f n g]=>if n=0/\(g=none\/g=some 0)then none else fH J (some (.p id f))
 |.unsafeString,[x,.i .i64 n]=>
  match a.toList with
  |[t,_]=>
   if n=0 then(match x with
    |.kG=>fH J (some (.s []))
    |.p _ _=>fH J (some (.s []))
    |_=>none)
   else match x with
   |.p id f=>match P.underlying t,J.get id with
    |some (.pointer e),some (.cells c i true h)=>
     if i=e/\e≠0/\P.cellsOf e=1/\0<n/\n<2^62/\J.lock<=id then
      match takeN c f n.toNat with
      |some r=>match bytesOf r with
       |some b=>some (some (.s b),J.put id (.cells c i false h))
       |none=>none
      |none=>none
     else none
    |_,_=>none
   |_=>none
  |_=>none
 |.min,[x,y]=>match yZ x,yZ y with
  |some u,some v=>fH J ((tu P (Builtin.min_ #[] 0 #[u,v])).bind (oH 4))
  |_,_=>none
 |.max,[x,y]=>match yZ x,yZ y with
  |some u,some v=>fH J ((tu P (Builtin.max_ #[] 0 #[u,v])).bind (oH 4))
  |_,_=>none
 |.min,[x,y,z]=>match yZ x,yZ y,yZ z with
  |some u,some v,some t=>fH J ((tu P (Builtin.min_ #[] 0 #[u,v,t])).bind (oH 4))
  |_,_,_=>none
 |_,_=>none
def adR(b:Builtin)(args:Q3):Bool:=
 match b,args with
 |.append,.iq::_=>!(iI.nodes.isEmpty)
 |_,_=>false
def lU{α:Type}(a:Option α)(b:Unit->Option α):Option α:=
 match a with
 |some x=>some x
 |none=>b ()
def xY{α:Type}{a:Option α}{b:Unit->Option α}{x:α}(h:lU a b=some x):a=some x\/b ()=some x:=by
 unfold lU at h;split at h
 ·exact .inl h
 ·exact .inr h
def xI(P:Program)(call:Caller)(o:Oper)(d:QQ)(J:aC):W5:=
 match o.op with
 |.move x|.assign x=>fH J (d x)
 |.pick c a b=>match dB (d c)with
  |some (.b t)=>fH J (if t then d a else d b)
  |_=>none
 |.alloc t=>(Bh P t).map λz=>(some (.p J.next 0),J.new (.cells z t true false))
 |.box t x=>(d x).map λv=>(some (.p J.next 0),J.new (.cells v.cells t true false))
 |.build t j=>match H8 d j.toList with
  |some E=>fH J (UL P t E)
  |none=>none
 |.buildSlice t len j=>
  match yN P t,H8 d j.toList with
  |some (e,g,_,z),some E=>
   if len*g>2^24 then none else
   match Di (λi=>some (i*g,g)) (if len*g=0 then[]else ku len z) E with
   |some q=>some (Xm P J e g len q)
   |none=>none
  |_,_=>none
 |.load t a=>match d a with
  |some a=>fH J (lU (yH P t J a) λ_=>YG P t J a)
  |none=>none
 |.store t a x=>match d a,d x with
  |some a,some v=>O8 (lU (GU P t J a v) λ_=>YL P t J a v)
  |_,_=>none
 |.nilCheck x=>match d x with
  |some (.p id n)=>fH J (some (.p id n))
  |some (.rp a n)=>fH J (some (.rp a n))
  |some (.rx m n)=>fH J (some (.rx m n))
  |some (.pv id m n)=>fH J (some (.pv id m n))
  |some (.fn f F q)=>fH J (some (.fn f F q))
  |_=>none
 |.binOp w t x y _=>match d x,d y with
  |some a,some b=>fH J (lU (wG P w t x y a b) λ_=>YB P w t a b)
  |_,_=>none
 |.unOp w _ x=>match d x with
  |some a=>match yZ a with
   |some u=>fH J ((tu P (Op.unary w u)).bind (oH 4))
   |none=>fH J (PO w a)
  |none=>none
 |.convert src A x=>match d x with
  |some a=>vU (lU (Aq P src A a J) λ_=>YC P src A a J)
  |none=>none
 |.makeInterface t x=>match d x,Kw P t with
  |some a,some false=>fH J (some (.jL t a))
  |_,_=>none
 |.makeFunc (.func f) first p=>match DF d first.toList,DF d p.toList with
   |some F,some q=>fH J (some (.fn f F q))
   |_,_=>none
 |.makeMap t r=>match r with
  |none=>some (some (.mp J.next),J.new (.map []))
  |some h=>match d h,P.underlying t with
   |some v,some (.map _ _)=>if mapArg v then some (some (.mp J.next),J.new (.map []))else none
   |_,_=>none
 |.makeSlice t l c=>match d l,d c with
  |some l,some c=>vU (lU (UR P t l c J) λ_=>YI P t l c J)
  |_,_=>none
 |.slice t x lo hi none=>match d x,Le d lo,Le d hi with
  |some v,some lo,some hi=>lU (fH J (lU (Dp P t J v lo hi) λ_=>TN P t v lo hi)) λ_=>vU (YK P t J v lo hi)
  |_,_,_=>none
 |.fieldAddr t x f=>match d x with
  |some a=>fH J (lU (UN P t a f) λ_=>YD P t a f)
  |none=>none
 |.field t x f=>match d x with
  |some a=>fH J (UM P t a f)
  |none=>none
 |.indexAddr t x G=>match d x,d G with
  |some a,some k=>fH J (lU (Ar P t a k) λ_=>YF P J t a k)
  |_,_=>none
 |.index t x G=>match d x,d G with
  |some a,some k=>fH J (lU (GN P t a k) λ_=>YE P t a k)
  |_,_=>none
 |.lookup t m k ok=>match d m,d k with
  |some m,some k=>fH J (lU (UQ P t m k ok J) λ_=>YH P t m k ok J)
  |_,_=>none
 |.mapUpdate t m k v|.insert t m k v=>match d m,d k,d v with
  |some m,some k,some v=>O8 (lU (UU P t m k v J) λ_=>YJ P t m k v J)
  |_,_,_=>none
 |.range t x=>match P.underlying t,d x with
  |some .string,some (.s s)=>some (some (.p J.next 0),J.new (.iter s 0))
  |some (.map _ _),some .rQ=>some (some (.p J.next 0),J.new (.iterM none))
  |some (.map _ _),some (.mp id)=>match J.get id with
   |some (.map _)=>some (some (.p J.next 0),J.new (.iterM (some id)))
   |_=>none
  |_,_=>none
 |.next H true=>match d H with
  |some a=>vU (UY a J)
  |none=>none
 |.next H false=>match d H with
  |some (.p id 0)=>match J.get id with
   |some (.iterM none)=>some (some (.fG [.b false]),J)
   |some (.iterM (some m))=>match J.get m with
    |some (.map [])=>some (some (.fG [.b false]),J)
    |_=>none
   |_=>none
  |_=>none
 |.typeAssert x _ t ok=>match d x with
  |some a=>fH J (U1 P a t ok)
  |none=>none
 |.extract x k=>match d x with
  |some (.fG l)=>fH J l[k]?
  |_=>none
 |.call c=>match DF d c.args.toList with
  |some args=>
   match c.callee with
   |.builtin b=>bif adR b args then lU (LU P b c.argTypes args J) λ_=>Jr P b c.argTypes args J else lU (Jr P b c.argTypes args J) λ_=>LU P b c.argTypes args J
   |.value f=>match d f with
    |some (.fn f I p)=>vU (call f (I++args++p) J)
    |_=>none
   |.invoke r D=>match(d r).bind (UW P D J)with
    |some (f,x)=>vU (call f (x::args) J)
    |none=>none
  |none=>none
 |_=>none
def aaI(c:BinOp)(k:IntKind)(a b:Int):Q4:=
 match c with
 |.add=>some (.i k (k.wrap (a+b)))
 |.sub=>some (.i k (k.wrap (a-b)))
 |.mul=>some (.i k (k.wrap (a*b)))
 |.eql=>some (.b (a==b))
 |.neq=>some (.b (a !=b))
 |.lss=>some (.b (decide (a<b)))
 |.leq=>some (.b (decide (a<=b)))
 |.gtr=>some (.b (decide (a>b)))
 |.geq=>some (.b (decide (a>=b)))
 |_=>none
def aaL(c:BinOp)(a b:Q0):Q4:=
 match c with
 |.add=>if a.length+b.length<=9223372036854775807 then some (.s (a++b))else none
 |.eql=>some (.b (a==b))
 |.neq=>some (.b (!(a==b)))
 |.lss=>some (.b (Op.bytesLess a b))
 |.leq=>some (.b (Op.bytesLess a b ||a==b))
 |.gtr=>some (.b (!(Op.bytesLess a b ||a==b)))
 |.geq=>some (.b (!(Op.bytesLess a b)))
 |_=>none
def aaH(P:Program)(c:BinOp)(t:TypeId)(x y:Operand)(a b:AV):Q4:=
 match a with
 |.i k m=>match b with
  |.i d n=>if k=d then match aaI c k m n with
    |some r=>some r
    |none=>wG P c t x y a b
   else wG P c t x y a b
  |_=>wG P c t x y a b
 |.s u=>match b with
  |.s v=>match aaL c u v with
   |some r=>some r
   |none=>wG P c t x y a b
  |_=>wG P c t x y a b
 |_=>wG P c t x y a b
def toList_mk(l:Q0):(⟨⟨l⟩⟩:ByteArray).toList=l:=by rw[ByteArray.toList_eq]
def atn{P:Program}{a:BinOp}{t:TypeId}{x y:Operand}{k:IntKind}{m n:Int}{r:AV}(h:aaI a k m n=some r):wG P a t x y (.i k m) (.i k n)=some r:=by
 have b:∀v:Value,(do eqGuard a t x y (.int k m) (.int k n);binOp a t (.int k m) (.int k n):Sem Value)=.pure v->oH 4 v=some r->wG P a t x y (.i k m) (.i k n)=some r:=by
  intro v c d;have:wG P a t x y (.i k m) (.i k n)=(tu P (do eqGuard a t x y (.int k m) (.int k n);binOp a t (.int k m) (.int k n):Sem Value)).bind (oH 4):=by cases a<;>rfl
  rw[this,c];exact d
 cases a<;>simp only[aaI,reduceCtorEq,bF]at h<;>subst h
 all_goals refine b _ (by simp only[eqGuard,binOp,ne_eq,not_true_eq_false,if_false,Op.intArith,Op.intCmp];rfl) rfl
def afs(a b:Q0):((⟨⟨a⟩⟩:ByteArray)++⟨⟨b⟩⟩)=⟨⟨a++b⟩⟩:=by apply ByteArray.ext;rw[ByteArray.data_append];simp
def atS{P:Program}{a:BinOp}{t:TypeId}{x y:Operand}{u v:Q0}{r:AV}(h:aaL a u v=some r):wG P a t x y (.s u) (.s v)=some r:=by
 have b:∀z:Value,(do eqGuard a t x y (.string ⟨⟨u⟩⟩) (.string ⟨⟨v⟩⟩);binOp a t (.string ⟨⟨u⟩⟩) (.string ⟨⟨v⟩⟩):Sem Value)=.pure z->oH 4 z=some r->wG P a t x y (.s u) (.s v)=some r:=by
  intro z c d;have:wG P a t x y (.s u) (.s v)=(tu P (do eqGuard a t x y (.string ⟨⟨u⟩⟩) (.string ⟨⟨v⟩⟩);binOp a t (.string ⟨⟨u⟩⟩) (.string ⟨⟨v⟩⟩):Sem Value)).bind (oH 4):=by cases a<;>rfl
  rw[this,c];exact d
 cases a<;>simp only[aaL,reduceCtorEq,bF]at h
 case add=>
  split at h
  ·next e=>
   cases h;have:¬(((⟨⟨u⟩⟩:ByteArray).size+(⟨⟨v⟩⟩:ByteArray).size:Nat):Int)>IntKind.i64.max:=by
    show ¬((u.length+v.length:Nat):Int)>9223372036854775807
    omega
   exact b (.string ⟨⟨u++v⟩⟩) (by simp only[eqGuard,binOp,Op.stringOp,aj this,afs];rfl) rfl
  ·cases h
 all_goals subst h
 all_goals refine b _ (by simp only[eqGuard,binOp,Op.stringOp,toList_mk];rfl) rfl
def atm(P:Program)(d:BinOp)(t:TypeId)(x y:Operand)(a b:AV):aaH P d t x y a b=wG P d t x y a b:=by
 unfold aaH;split
 ·split
  ·split
   ·next e=>
    subst e;split
    ·next r c=>exact(atn c).symm
    ·rfl
   ·rfl
  ·rfl
 ·split
  ·split
   ·next r c=>exact(atS c).symm
   ·rfl
  ·rfl
 ·rfl
def fUn(P:Program)(J:aC)(b:UnOp)(a:AV):W5:=
 match b with
 |.not=>match a with
  |.b x=>some (some (.b (!x)),J)
  |_=>match yZ a with
   |some u=>fH J ((tu P (Op.unary b u)).bind (oH 4))
   |none=>fH J (PO b a)
 |_=>match yZ a with
  |some u=>fH J ((tu P (Op.unary b u)).bind (oH 4))
  |none=>fH J (PO b a)
def aho(_P:Program)(_call:Caller)(a:QQ)(J:aC)(x:Operand):W5:=
 fH J (a x)
def ato(_P:Program)(_call:Caller)(d:QQ)(J:aC)(c:Operand)(a:Operand)(b:Operand):W5:=
 match dB (d c)with
  |some (.b t)=>fH J (if t then d a else d b)
  |_=>none
def atz(P:Program)(_call:Caller)(_ev:QQ)(J:aC)(t:TypeId):W5:=
 (Bh P t).map λz=>(some (.p J.next 0),J.new (.cells z t true false))
def atJ(_P:Program)(_call:Caller)(a:QQ)(J:aC)(t:TypeId)(x:Operand):W5:=
 (a x).map λv=>(some (.p J.next 0),J.new (.cells v.cells t true false))
def atK(P:Program)(_call:Caller)(b:QQ)(J:aC)(t:TypeId)(a:Array (Nat×Operand)):W5:=
 match H8 b a.toList with
  |some c=>fH J (UL P t c)
  |none=>none
def atM(P:Program)(_call:Caller)(c:QQ)(J:aC)(t:TypeId)(len:Nat)(b:Array (Nat×Operand)):W5:=
     match yN P t,H8 c b.toList with
    |some (e,a,_,z),some d=>
     if len*a>2^24 then none else
     match Di (λi=>some (i*a,a)) (if len*a=0 then[]else ku len z) d with
     |some f=>some (Xm P J e a len f)
     |none=>none
    |_,_=>none
def atN(P:Program)(_call:Caller)(b:QQ)(J:aC)(t:TypeId)(a:Operand):W5:=
 match b a with
  |some a=>fH J (lU (yH P t J a) λ_=>YG P t J a)
  |none=>none
def atO(P:Program)(_call:Caller)(b:QQ)(J:aC)(t:TypeId)(a:Operand)(x:Operand):W5:=
 match b a,b x with
  |some a,some v=>O8 (lU (GU P t J a v) λ_=>YL P t J a v)
  |_,_=>none
def atP(_P:Program)(_call:Caller)(c:QQ)(J:aC)(x:Operand):W5:=
 match c x with
  |some (.p id b)=>fH J (some (.p id b))
  |some (.rp a b)=>fH J (some (.rp a b))
  |some (.rx m b)=>fH J (some (.rx m b))
  |some (.pv id m b)=>fH J (some (.pv id m b))
  |some (.fn f d e)=>fH J (some (.fn f d e))
  |_=>none
def aaK(P:Program)(_call:Caller)(c:QQ)(J:aC)(d:BinOp)(t:TypeId)(x:Operand)(y:Operand):W5:=
 match c x,c y with
  |some a,some b=>fH J (lU (aaH P d t x y a b) λ_=>YB P d t a b)
  |_,_=>none
def aaJ(P:Program)(_call:Caller)(b:QQ)(J:aC)(c:UnOp)(x:Operand):W5:=
 match b x with
  |some a=>fUn P J c a
  |none=>none
def atp(P:Program)(_call:Caller)(b:QQ)(J:aC)(src:TypeId)(dst:TypeId)(x:Operand):W5:=
 match b x with
  |some a=>vU (lU (Aq P src dst a J) λ_=>YC P src dst a J)
  |none=>none
def atq(P:Program)(_call:Caller)(b:QQ)(J:aC)(t:TypeId)(x:Operand):W5:=
 match b x,Kw P t with
  |some a,some false=>fH J (some (.jL t a))
  |_,_=>none
def atr(_P:Program)(_call:Caller)(b:QQ)(J:aC)(f:FuncId)(first:Array Operand)(a:Array Operand):W5:=
 match DF b first.toList,DF b a.toList with
  |some c,some d=>fH J (some (.fn f c d))
  |_,_=>none
def att(P:Program)(_call:Caller)(a:QQ)(J:aC)(t:TypeId)(r:Option Operand):W5:=
 match r with
  |none=>some (some (.mp J.next),J.new (.map []))
  |some h=>match a h,P.underlying t with
   |some v,some (.map _ _)=>if mapArg v then some (some (.mp J.next),J.new (.map []))else none
   |_,_=>none
def atu(P:Program)(_call:Caller)(a:QQ)(J:aC)(t:TypeId)(l:Operand)(c:Operand):W5:=
 match a l,a c with
  |some l,some c=>vU (lU (UR P t l c J) λ_=>YI P t l c J)
  |_,_=>none
def atv(P:Program)(_call:Caller)(a:QQ)(J:aC)(t:TypeId)(x:Operand)(lo:Option Operand)(hi:Option Operand):W5:=
 match a x,Le a lo,Le a hi with
  |some v,some lo,some hi=>lU (fH J (lU (Dp P t J v lo hi) λ_=>TN P t v lo hi)) λ_=>vU (YK P t J v lo hi)
  |_,_,_=>none
def atw(P:Program)(_call:Caller)(b:QQ)(J:aC)(t:TypeId)(x:Operand)(f:Nat):W5:=
 match b x with
  |some a=>fH J (lU (UN P t a f) λ_=>YD P t a f)
  |none=>none
def atx(P:Program)(_call:Caller)(b:QQ)(J:aC)(t:TypeId)(x:Operand)(f:Nat):W5:=
 match b x with
  |some a=>fH J (UM P t a f)
  |none=>none
def aty(P:Program)(_call:Caller)(b:QQ)(J:aC)(t:TypeId)(x:Operand)(c:Operand):W5:=
 match b x,b c with
  |some a,some k=>fH J (lU (Ar P t a k) λ_=>YF P J t a k)
  |_,_=>none
def atA(P:Program)(_call:Caller)(b:QQ)(J:aC)(t:TypeId)(x:Operand)(c:Operand):W5:=
 match b x,b c with
  |some a,some k=>fH J (lU (GN P t a k) λ_=>YE P t a k)
  |_,_=>none
def atB(P:Program)(_call:Caller)(a:QQ)(J:aC)(t:TypeId)(m:Operand)(k:Operand)(ok:Bool):W5:=
 match a m,a k with
  |some m,some k=>fH J (lU (UQ P t m k ok J) λ_=>YH P t m k ok J)
  |_,_=>none
def ahp(P:Program)(_call:Caller)(a:QQ)(J:aC)(t:TypeId)(m:Operand)(k:Operand)(v:Operand):W5:=
 match a m,a k,a v with
  |some m,some k,some v=>O8 (lU (UU P t m k v J) λ_=>YJ P t m k v J)
  |_,_,_=>none
def atC(P:Program)(_call:Caller)(a:QQ)(J:aC)(t:TypeId)(x:Operand):W5:=
 match P.underlying t,a x with
  |some .string,some (.s s)=>some (some (.p J.next 0),J.new (.iter s 0))
  |some (.map _ _),some .rQ=>some (some (.p J.next 0),J.new (.iterM none))
  |some (.map _ _),some (.mp id)=>match J.get id with
   |some (.map _)=>some (some (.p J.next 0),J.new (.iterM (some id)))
   |_=>none
  |_,_=>none
def atD(_P:Program)(_call:Caller)(b:QQ)(J:aC)(it:Operand):W5:=
 match b it with
  |some a=>vU (UY a J)
  |none=>none
def atE(_P:Program)(_call:Caller)(a:QQ)(J:aC)(it:Operand):W5:=
 match a it with
  |some (.p id 0)=>match J.get id with
   |some (.iterM none)=>some (some (.fG [.b false]),J)
   |some (.iterM (some m))=>match J.get m with
    |some (.map [])=>some (some (.fG [.b false]),J)
    |_=>none
   |_=>none
  |_=>none
def atG(P:Program)(_call:Caller)(b:QQ)(J:aC)(x:Operand)(t:TypeId)(ok:Bool):W5:=
 match b x with
  |some a=>fH J (U1 P a t ok)
  |none=>none
def atH(_P:Program)(_call:Caller)(a:QQ)(J:aC)(x:Operand)(k:Nat):W5:=
 match a x with
  |some (.fG l)=>fH J l[k]?
  |_=>none
def atI(P:Program)(call:Caller)(e:QQ)(J:aC)(c:Call):W5:=
 match DF e c.args.toList with
  |some args=>
   match c.callee with
   |.builtin b=>bif adR b args then lU (LU P b c.argTypes args J) λ_=>Jr P b c.argTypes args J else lU (Jr P b c.argTypes args J) λ_=>LU P b c.argTypes args J
   |.value f=>match e f with
    |some (.fn f g a)=>vU (call f (g++args++a) J)
    |_=>none
   |.invoke r d=>match(e r).bind (UW P d J)with
    |some (f,x)=>vU (call f (x::args) J)
    |none=>none
  |none=>none
structure OpW where
 f:Program->Caller->(QQ)->aC->Option (Q4×aC)
def opF(o:Op):OpW:=
 Op.casesOn (motive:=λ_=>OpW) o
  (λx=>⟨λP call d J=>aho P call d J x⟩)
  (λx=>⟨λP call d J=>aho P call d J x⟩)
  (λc a b=>⟨λP call d J=>ato P call d J c a b⟩)
  (λt=>⟨λP call d J=>atz P call d J t⟩)
  (λt x=>⟨λP call d J=>atJ P call d J t x⟩)
  (λt e=>⟨λP call d J=>atK P call d J t e⟩)
  (λt len e=>⟨λP call d J=>atM P call d J t len e⟩)
  (λt m k v=>⟨λP call d J=>ahp P call d J t m k v⟩)
  (λt a=>⟨λP call d J=>atN P call d J t a⟩)
  (λt a x=>⟨λP call d J=>atO P call d J t a x⟩)
  (λ_=>⟨λ_P _call _ev _J=>none⟩)
  (λ_=>⟨λ_P _call _ev _J=>none⟩)
  (λx=>⟨λP call d J=>atP P call d J x⟩)
  (λh t x y _=>⟨λP call d J=>aaK P call d J h t x y⟩)
  (λh _ x=>⟨λP call d J=>aaJ P call d J h x⟩)
  (λsrc i x=>⟨λP call d J=>atp P call d J src i x⟩)
  (λ_ _=>⟨λ_P _call _ev _J=>none⟩)
  (λt x=>⟨λP call d J=>atq P call d J t x⟩)
  (λfn first g=>⟨λP call d J=>match fn with|.func f=>atr P call d J f first g|_=>none⟩)
  (λt r=>⟨λP call d J=>att P call d J t r⟩)
  (λ_ _=>⟨λ_P _call _ev _J=>none⟩)
  (λt l c=>⟨λP call d J=>atu P call d J t l c⟩)
  (λt x lo hi p=>⟨λP call d J=>match p with|none=>atv P call d J t x lo hi|some _=>none⟩)
  (λt x f=>⟨λP call d J=>atw P call d J t x f⟩)
  (λt x f=>⟨λP call d J=>atx P call d J t x f⟩)
  (λt x j=>⟨λP call d J=>aty P call d J t x j⟩)
  (λt x j=>⟨λP call d J=>atA P call d J t x j⟩)
  (λt m k ok=>⟨λP call d J=>atB P call d J t m k ok⟩)
  (λt m k v=>⟨λP call d J=>ahp P call d J t m k v⟩)
  (λ_ _ _=>⟨λ_P _call _ev _J=>none⟩)
  (λ_ _ _ _=>⟨λ_P _call _ev _J=>none⟩)
  (λt x=>⟨λP call d J=>atC P call d J t x⟩)
  (λn b=>⟨λP call d J=>bif b then atD P call d J n else atE P call d J n⟩)
  (λ_=>⟨λ_P _call _ev _J=>none⟩)
  (λx _ t ok=>⟨λP call d J=>atG P call d J x t ok⟩)
  (λx k=>⟨λP call d J=>atH P call d J x k⟩)
  (λc=>⟨λP call d J=>atI P call d J c⟩)
  (λ_=>⟨λ_P _call _ev _J=>none⟩)
  (λ_=>⟨λ_P _call _ev _J=>none⟩)
  (λ_=>⟨λ_P _call _ev _J=>none⟩)
  (λ_ _=>⟨λ_P _call _ev _J=>none⟩)
  (λ_ _ _=>⟨λ_P _call _ev _J=>none⟩)
  (λ_ _=>⟨λ_P _call _ev _J=>none⟩)
def BQ(P:Program)(call:Caller)(o:Oper)(a:QQ)(J:aC):W5:=(opF o.op).f P call a J
def atT(P:Program)(J:aC)(b:UnOp)(a:AV):fUn P J b a=match yZ a with
 |some u=>fH J ((tu P (Op.unary b u)).bind (oH 4))
 |none=>fH J (PO b a):=by
 cases b<;>first|rfl|skip
 cases a<;>rfl
def EW(P:Program)(call:Caller)(o:Oper)(c:QQ)(J:aC):BQ P call o c J=xI P call o c J:=by
 obtain⟨f,a,e,pos,d,guard⟩:=o;cases a with
 |binOp a t x y _=>
  show aaK P call c J a t x y=_
  simp only[aaK,atm,xI]
 |unOp a _ x=>
  show aaJ P call c J a x=_
  simp only[aaJ,atT,xI]
 |slice t x lo hi g=>cases g<;>rfl
 |makeFunc fn _ _=>cases fn<;>rfl
 |next h b=>cases b<;>rfl
 |_=>rfl
def Md(o:Oper)(c:W6)(a:bM):Ys:=
 match o.guard with
 |none=>some true
 |some (j,b)=>
  match c[j]? with
  |some q=>match q.dst with
   |some d=>match dB (a.t.get d)with
    |some (.b x)=>some (x==b)
    |some (.fG _)=>some false
    |_=>none
   |none=>none
  |none=>none
def ZE(P:Program)(call:Caller)(b:W6)(i:Nat)(a:bM)(J:aC):Option (bM×aC):=
 match b[i]? with
 |none=>none
 |some o=>
  match Md o b a with
  |none=>none
  |some false=>(a.put o.dst (some (.fG []))).map (·,J)
  |some true=>
   match BQ P call o a.eval J with
   |none=>none
   |some (v,c)=>(a.put o.dst v).map (·,c)
def Nl(P:Program)(call:Caller)(b:W6):Q2->bM->aC->Option (bM×aC)
 |[],a,J=>some (a,J)
 |i::rest,a,J=>
  match ZE P call b i a J with
  |some (c,J')=>Nl P call b rest c J'
  |none=>none
inductive fQ where
 |normal
 |exit (id:Nat)
 |ret
abbrev Wd:=Option (fQ×bM×aC)
def Dk(P:Program)(J:aC)(a:bM):List ResultVar->Option Q3
 |[]=>some []
 |.tmp t::rs=>match a.t.get t,Dk P J a rs with
  |some v,some r=>some (v::r)
  |_,_=>none
 |.cell t ty::rs=>match(a.t.get t).bind (yH P ty J),Dk P J a rs with
  |some v,some r=>some (v::r)
  |_,_=>none
def LX:Q3->AV
 |[v]=>v
 |l=>.fG l
def BK:Q3->Nat->Tr AV->Tr AV
 |[],_,t=>t
 |v::vs,k,t=>BK vs (k+1) (t.set k (some v))
abbrev CY:=W6->bM->aC->Option (bM×aC)
abbrev zJ:=FuncId->Option (Q3->aC->Option (AV×aC))
def JH(P:Program)(d:zJ)(run:Code->bM->aC->Option (fQ×bM×aC)):Caller:=λf args J=>
 match d f with
 |some g=>g args J
 |none=>
  match P.funcs[f]? with
  |none=>none
  |some fn=>match fn.body with
   |none=>none
   |some c=>
    match run c {t:=BK args 0 .nil,n:=max args.length fn.ntmps,gn:=P.globals.size} J with
    |some (.normal,b,a)|some (.ret,b,a)=>(Dk P a b fn.results.toList).map λl=>(LX l,a)
    |_=>none
def wM(P:Program)(i:Caller->CY)(h:zJ)(run:Code->bM->aC->Option (fQ×bM×aC))(c:Code)(a:bM)(J:aC):Wd:=
 match c with
 |.skip=>some (.normal,a,J)
 |.region _ d false=>(Nl P (JH P h run) d (List.range d.size) a J).map λ(a,J)=>(.normal,a,J)
 |.region _ d true=>(i (JH P h run) d a J).map λ(a,J)=>(.normal,a,J)
 |.seq x y=>
  match run x a J with
  |some (.normal,e,f)=>run y e f
  |r=>r
 |.cond x y z=>
  match dB (a.eval x)with
  |some (.b t)=>run (if t then y else z) a J
  |_=>none
 |.block id b=>
  match run b a J with
  |some (.exit g,e,f)=>if g=id then some (.normal,e,f)else some (.exit g,e,f)
  |r=>r
 |.loop b=>
  match run b a J with
  |some (.normal,e,f)=>run (.loop b) e f
  |r=>r
 |.exit id=>some (.exit id,a,J)
 |.ret=>some (.ret,a,J)
 |_=>none
structure Bo where
 f:Program->(Caller->CY)->zJ->(Code->bM->aC->Option (fQ×bM×aC))->bM->aC->Option (fQ×bM×aC)
def aoC:Bo:=⟨λ_ _ _ _ a J=>some (.normal,a,J)⟩
def aou(b:W6)(d:Bool):Bo:=bif d then⟨λP e c run a J=>(e (JH P c run) b a J).map λ(a,J)=>(.normal,a,J)⟩
 else⟨λP _ c run a J=>(Nl P (JH P c run) b (List.range b.size) a J).map λ(a,J)=>(.normal,a,J)⟩
def aoB(x y:Code):Bo:=⟨λ_ _ _ run a J=>match run x a J with
    |some (.normal,b,c)=>run y b c
    |r=>r⟩
def aor(x:Operand)(y z:Code):Bo:=⟨λ_ _ _ run a J=>match dB (a.eval x)with
    |some (.b t)=>run (if t then y else z) a J
    |_=>none⟩
def aoq(id:Nat)(b:Code):Bo:=⟨λ_ _ _ run a J=>match run b a J with
    |some (.exit c,d,e)=>if c=id then some (.normal,d,e)else some (.exit c,d,e)
    |r=>r⟩
def aot(b:Code):Bo:=⟨λ_ _ _ run a J=>match run b a J with
    |some (.normal,c,d)=>run (.loop b) c d
    |r=>r⟩
def aos(id:Nat):Bo:=⟨λ_ _ _ _ a J=>some (.exit id,a,J)⟩
def aov:Bo:=⟨λ_ _ _ _ a J=>some (.ret,a,J)⟩
def QF:Bo:=⟨λ_ _ _ _ _ _=>none⟩
def codeF(c:Code):Bo:=
 Code.casesOn (motive:=λ_=>Bo) c
  aoC
  (λ_ a d=>aou a d)
  (λx y=>aoB x y)
  (λx y z=>aor x y z)
  (λid b=>aoq id b)
  (λb=>aot b)
  (λ_ _ _ _=>QF)
  (λid=>aos id)
  (λ_=>QF)
  (λ_=>QF)
  (λ_=>QF)
  aov
  (λ_=>QF)
def codeF_eq(P:Program)(b:Caller->CY)(e:zJ)(run:Code->bM->aC->Option (fQ×bM×aC))(c:Code)(a:bM)(J:aC):(codeF c).f P b e run a J=wM P b e run c a J:=by
 cases c with
 |region id f d=>cases d<;>rfl
 |_=>rfl
def GL(P:Program)(b:Caller->CY)(d:zJ)(n:Nat):Code->bM->aC->Option (fQ×bM×aC):=
 Nat.rec (motive:=λ_=>Code->bM->aC->Option (fQ×bM×aC)) (λ_ _ _=>none) (λ_ run c a J=>(codeF c).f P b d run a J) n
def afi(P:Program)(b:Caller->CY)(d:zJ)(c:Code)(a:bM)(J:aC):GL P b d 0 c a J=none:=rfl
def yF(P:Program)(b:Caller->CY)(d:zJ)(n:Nat)(c:Code)(a:bM)(J:aC):GL P b d (n+1) c a J=wM P b d (GL P b d n) c a J:=codeF_eq P b d _ c a J
def afh(P:Program)(b:Caller->CY)(a:zJ)(n:Nat):Caller:=JH P a (GL P b a n)
end
noncomputable section
variable[aJ]
def Nj{F:Env}:∀{l:Q3}{vs:Q6},aG F l vs↔l.length=vs.length/\∀(k:Nat) a x,l[k]? =some a->vs[k]? =some x->VR F a x
 |[],vs=>by
  simp only[aG];constructor
  ·rintro rfl;simp
  ·rintro⟨h,_⟩;cases vs with
   |nil=>rfl
   |cons _ _=>simp at h
 |a::l,vs=>by
  simp only[aG];constructor
  ·rintro⟨x,xs,rfl,h1,g⟩
   have e:=(Nj (l:=l) (vs:=xs)).1 g;refine⟨by simp[e.1],?_⟩;intro k b y c d;cases k with
   |zero=>simp at c d;subst c;subst d;exact h1
   |succ k=>simp at c d;exact e.2 k b y c d
  ·rintro⟨f,h⟩
   cases vs with
   |nil=>simp at f
   |cons x xs=>refine⟨x,xs,rfl,h 0 a x aA aA,(Nj (l:=l) (vs:=xs)).2 ⟨by simpa using f,?_⟩⟩;intro k b y c d;exact h (k+1) b y (by simpa using c) (by simpa using d)
def aG.length{F:Env}{l:Q3}{vs:Q6}(h:aG F l vs):l.length=vs.length:=(Nj.1 h).1
def aG.at{F:Env}{l:Q3}{vs:Q6}(h:aG F l vs){k:Nat}{a:AV}(b:l[k]? =some a):∃x,vs[k]? =some x/\VR F a x:=by have c:=Nj.1 h;obtain⟨d,rfl⟩:=gu.1 b;have:k<vs.length:=ah;exact⟨vs[k],bZ this,c.2 k _ _ b (bZ this)⟩
def aG.of{F:Env}{l:Q3}{vs:Q6}(c:l.length=vs.length)(h:∀(k:Nat) a,l[k]? =some a->∃x,vs[k]? =some x/\VR F a x):aG F l vs:=
 Nj.2 ⟨c,λk a x d e=>by obtain⟨y,b,f⟩:=h k a d;rw[e]at b;cases b;exact f⟩
def aG.append{F:Env}{l c:Q3}{vs b:Q6}(h:aG F l vs)(d:aG F c b):aG F (l++c) (vs++b):=by
 induction l generalizing vs with
 |nil=>simp only[aG]at h;subst h;simpa using d
 |cons a l e=>simp only[aG]at h;obtain⟨x,f,rfl,g,i⟩:=h;exact⟨x,f++b,rfl,g,e i⟩
def aG.take{F:Env}{l:Q3}{vs:Q6}(h:aG F l vs)(n:Nat):aG F (l.take n) (vs.take n):=by
 induction n generalizing l vs with
 |zero=>simp[aG]
 |succ n b=>cases l with
  |nil=>simp only[aG]at h;subst h;simp[aG]
  |cons a l=>simp only[aG]at h;obtain⟨x,c,rfl,d,e⟩:=h;exact⟨x,c.take n,aA,d,b e⟩
def aG.drop{F:Env}{l:Q3}{vs:Q6}(h:aG F l vs)(n:Nat):aG F (l.drop n) (vs.drop n):=by
 induction n generalizing l vs with
 |zero=>simpa using h
 |succ n b=>cases l with
  |nil=>simp only[aG]at h;subst h;simp[aG]
  |cons a l=>simp only[aG]at h;obtain⟨x,d,rfl,e,c⟩:=h;simpa using b c
def aG.cons{F:Env}{a:AV}{l:Q3}{x:Value}{vs:Q6}(h:VR F a x)(b:aG F l vs):aG F (a::l) (x::vs):=⟨x,vs,rfl,h,b⟩
structure Env.le(F F':Env):Prop where
 pl:∀id q,F id=some q->F' id=some q
 ro:∀b o,F.ro b=some o->F'.ro b=some o
 gh:∀id,F.gh id=true->F'.gh id=true
def Env.le.refl(F:Env):F.le F:=⟨λ_ _ h=>h,λ_ _ h=>h,λ_ h=>h⟩
def Env.le.trans{a b c:Env}(h:a.le b)(d:b.le c):a.le c:=⟨λid q e=>d.pl id q (h.pl id q e),λb o f=>d.ro b o (h.ro b o f),λid e=>d.gh id (h.gh id e)⟩
def Env.has(F:Env)(id:Nat):Prop:=(∃q,F id=some q)\/F.gh id=true
def Env.has.mono{F F':Env}{id:Nat}(h:F.has id)(a:F.le F'):F'.has id:=h.elim (λ⟨q,b⟩=>.inl ⟨q,a.pl _ _ b⟩) λc=>.inr (a.gh _ c)
mutual
def GR.mono{ro ro':Qf}(h:∀b o,ro b=some o->ro' b=some o):∀(a:GV)(v:Value),GR ro a v->GR ro' a v
 |.b _,_,d=>by simpa only[GR]using d
 |.i _ _,_,d=>by simpa only[GR]using d
 |.s _,_,d=>by simpa only[GR]using d
 |.g l,_,d=>by simp only[GR]at d⊢;obtain⟨x,e,h1⟩:=d;exact⟨x,e,aU.mono h l x h1⟩
 |.l j,_,d=>by
  simp only[GR]at d⊢;rcases d with d|⟨k,g,c,i,m,e,n,h1,p,q⟩
  ·exact .inl d
  exact .inr ⟨k,g,c,i,m,e,n,aU.mono h j i h1,p,λr=>by obtain⟨s,f,t,u,w⟩:=q r;exact⟨s,f,t,h _ _ u,w⟩⟩
def aU.mono{ro ro':Qf}(h:∀b o,ro b=some o->ro' b=some o):∀(l:Q1)(vs:Q6),aU ro l vs->aU ro' l vs
 |[],_,c=>by simpa only[aU]using c
 |a::l,_,c=>by simp only[aU]at c⊢;obtain⟨x,xs,e,h1,d⟩:=c;exact⟨x,xs,e,GR.mono h a x h1,aU.mono h l xs d⟩
end
mutual
def VR.mono{F F':Env}(h:F.le F'):∀(a:AV)(v:Value),VR F a v->VR F' a v
 |.b _,_,b=>by simpa only[VR]using b
 |.i _ _,_,b=>by simpa only[VR]using b
 |.s _,_,b=>by simpa only[VR]using b
 |.kG,_,b=>by simpa only[VR]using b
 |.p _ _,_,b=>by simp only[VR]at b⊢;obtain⟨q,m,e⟩:=b;exact⟨q,h.pl _ _ m,e⟩
 |.iq,_,b=>by simpa only[VR]using b
 |.sl _ _ _ _,_,b=>by simp only[VR]at b⊢;obtain⟨q,m,e⟩:=b;exact⟨q,h.pl _ _ m,e⟩
 |.rQ,_,b=>by simpa only[VR]using b
 |.mp _,_,b=>by simp only[VR]at b⊢;obtain⟨q,m,e⟩:=b;exact⟨q,h.pl _ _ m,e⟩
 |.AU,_,b=>by simpa only[VR]using b
 |.fn _ D o,_,b=>by simp only[VR]at b⊢;obtain⟨z,A,e,d,f⟩:=b;exact⟨z,A,e,aG.mono h D z d,aG.mono h o A f⟩
 |.vS,_,b=>by simpa only[VR]using b
 |.jL _ a,_,b=>by simp only[VR]at b⊢;obtain⟨x,e,d⟩:=b;exact⟨x,e,VR.mono h a x d⟩
 |.agg l,_,b=>by simp only[VR]at b⊢;obtain⟨x,e,d⟩:=b;exact⟨x,e,aG.mono h l x d⟩
 |.fG l,_,b=>by simp only[VR]at b⊢;obtain⟨x,e,d⟩:=b;exact⟨x,e,aG.mono h l x d⟩
 |.z _ _ _,_,b=>by simpa only[VR]using b
 |.ro l,_,b=>by
  simp only[VR]at b⊢;rcases b with b|⟨s,w,c,r,E,e,G,d,f,n⟩
  ·exact .inl b
  refine .inr ?_;exact⟨s,w,c,r,E,e,G,aG.mono h l r d,f,λy=>by obtain⟨o,j,t,u,H⟩:=n y;exact⟨o,j,t,h.ro _ _ u,H⟩⟩
 |.rp a _,_,b=>by simp only[VR]at b⊢;obtain⟨s,base,o,j,t,x,d,f,n⟩:=b;exact⟨s,base,o,j,t,x,h.ro _ _ d,VR.mono h a x f,n⟩
 |.nd _,_,b=>by simp only[VR]at b⊢;obtain⟨g,d,f,n⟩:=b;exact⟨g,d,f,GR.mono h.ro _ _ n⟩
 |.rx _ _,_,b=>by simp only[VR]at b⊢;obtain⟨g,s,base,o,j,t,x,d,f,n,u⟩:=b;exact⟨g,s,base,o,j,t,x,d,h.ro _ _ f,GR.mono h.ro _ _ n,u⟩
 |.sv _ _,_,b=>by
  simp only[VR]at b⊢;obtain⟨r,d,⟨q,m,f⟩|⟨I,f⟩⟩:=b
  ·exact⟨r,d,.inl ⟨q,h.pl _ _ m,f⟩⟩
  ·exact⟨r,d,.inr ⟨h.gh _ I,f⟩⟩
 |.pv _ _ _,_,b=>by simp only[VR]at b⊢;obtain⟨q,k,i,m,f⟩:=b;exact⟨q,k,i,h.pl _ _ m,f⟩
 |.pd _ _,_,b=>by simp only[VR]at b⊢;obtain⟨r,p,d,f,n⟩:=b;exact⟨r,p,d,f,λy=>by obtain⟨q,m,u⟩:=n y;exact⟨q,h.pl _ _ m,u⟩⟩
def aG.mono{F F':Env}(h:F.le F'):∀(l:Q3)(vs:Q6),aG F l vs->aG F' l vs
 |[],_,b=>by simpa only[aG]using b
 |a::l,_,b=>by simp only[aG]at b⊢;obtain⟨x,xs,e,h1,c⟩:=b;exact⟨x,xs,e,VR.mono h a x h1,aG.mono h l xs c⟩
end
def OO{α β:Type}{f:α->Option β}:∀{l:List α}{r:List β},wY f l=some r->l.length=r.length/\∀(k:Nat) x,l[k]? =some x->∃y,r[k]? =some y/\f x=some y
 |[],r,h=>by simp[wY]at h;subst h;simp
 |x::xs,r,h=>by
  simp only[wY]at h;split at h
  ·cases h
  ·rename_i y d
   split at h
   ·cases h
   ·rename_i i b
    cases h;have c:=OO b;refine⟨by simp[c.1],λk z a=>?_⟩;cases k with
    |zero=>simp at a;subst a;exact⟨y,aA,d⟩
    |succ k=>simp at a;obtain⟨u,e,g⟩:=c.2 k z a;exact⟨u,by simpa using e,g⟩
def amF{F:Env}:∀(n:Nat)(a:AV)(v:Value),a.toVal n=some v->VR F a v:=by
 intro n;induction n with
 |zero=>intro a v h;simp[AV.toVal]at h
 |succ n f=>
  intro a v h;have b:∀(l:Q3)(e:Q6),wY (AV.toVal n) l=some e->aG F l e:=λl e g=>by have:=OO g;exact aG.of this.1 λk a i=>by obtain⟨y,j,m⟩:=this.2 k a i;exact⟨y,j,f _ _ m⟩
  cases a<;>simp only[AV.toVal,bJ,bF]at h<;>simp only[VR]<;>first|exact h.symm|(cases h;done)|skip
  case jL t a=>obtain⟨y,c,d⟩:=h;exact⟨_,d.symm,f _ _ c⟩
  case agg l=>obtain⟨y,c,d⟩:=h;exact⟨_,d.symm,b _ _ c⟩
  case fG l=>obtain⟨y,c,d⟩:=h;exact⟨_,d.symm,b _ _ c⟩
def amG{F:Env}:∀(n:Nat)(a:AV)(v x:Value),a.toVal n=some v->VR F a x->x=v:=by
 intro n;induction n with
 |zero=>intro a v x h;simp[AV.toVal]at h
 |succ n j=>
  intro a v x h e;have f:∀(l:Q3)(g i:Q6),wY (AV.toVal n) l=some g->aG F l i->i=g:=λl g i p m=>by
   have b:=OO p;have d:=Nj.1 m;apply Jf;intro k;by_cases o:k<l.length
   ·obtain⟨y,q,r⟩:=b.2 k _ (bZ o);obtain⟨z,c,s⟩:=m.at (bZ o);rw[q,c,j _ _ _ r s]
   ·rw[xA ah,xA ah]
  cases a<;>simp only[AV.toVal,bJ,bF]at h<;>simp only[VR]at e<;>first|exact e.trans h|(cases h;done)|skip
  case jL t a=>obtain⟨y,b,d⟩:=h;obtain⟨z,rfl,c⟩:=e;rw[<-d,j _ _ _ b c]
  case agg l=>obtain⟨y,b,d⟩:=h;obtain⟨z,rfl,c⟩:=e;rw[<-d,f _ _ _ b c]
  case fG l=>obtain⟨y,b,d⟩:=h;obtain⟨z,rfl,c⟩:=e;rw[<-d,f _ _ _ b c]
def FN{F:Env}:∀(n:Nat)(v:Value)(a:AV),oH n v=some a->VR F a v:=by
 intro n;induction n with
 |zero=>intro v a h;simp[oH]at h
 |succ n f=>
  intro v a h;have c:∀(e:Q6)(l:Q3),wY (oH n) e=some l->aG F l e:=λe l j=>by
   have b:=OO j;refine aG.of b.1.symm λk a g=>?_;have d:k<e.length:=by have:=(gu.1 g).1;omega
   obtain⟨y,i,m⟩:=b.2 k _ (bZ d);rw[g]at i;cases i;exact⟨_,bZ d,f _ _ m⟩
  unfold oH at h;split at h;all_goals try (cases h;done)
  all_goals try (cases h;simp only[VR];done)
  ·simp only[bJ]at h;obtain⟨y,b,rfl⟩:=h;simp only[VR];exact⟨_,rfl,f _ _ b⟩
  ·simp only[bJ]at h;obtain⟨y,b,rfl⟩:=h;simp only[VR];exact⟨_,rfl,c _ _ b⟩
  ·simp only[bJ]at h;obtain⟨y,b,rfl⟩:=h;simp only[VR];exact⟨_,rfl,c _ _ b⟩
def D8{α:Type}{P:Program}{s:Sem α}{a:α}(h:tu P s=some a)(w:World):s.run P w=.ok a w:=by
 induction s with
 |pure x=>simp[tu]at h;subst h;rfl
 |program k b=>exact b P h
 |mark m k b=>exact b h
 |_=>simp[tu]at h
omit [aJ] in
def Tr.ahQ{α:Type}:∀p:List Bool,(Tr.nil:Tr α).wR p=none
 |[]=>rfl
 |b::p=>by
  show Tr.wR p (bif b then Tr.nil else Tr.nil)=none
  cases b<;>exact Tr.ahQ p
omit [aJ] in
@[simp] theorem Tr.get_nil{α:Type}(m:Nat):(Tr.nil:Tr α).get m=none:=Tr.ahQ _
omit [aJ] in
def Tr.aaW{α:Type}(x:Option α):∀(p q:List Bool)(t:Tr α),(t.LM x p).wR q=if q=p then x else t.wR q
 |[],[],t=>rfl
 |[],c::q,t=>by rw[aj aA];rfl
 |b::p,[],t=>by rw[aj aA];cases b<;>rfl
 |b::p,c::q,t=>by
  have h1:(t.LM x (b::p))=bif b then .nd t.val (t.FD.LM x p) t.FX else .nd t.val t.FD (t.FX.LM x p):=rfl
  have a:∀u:Tr α,u.wR (c::q)=(bif c then u.FD else u.FX).wR q:=λ_=>rfl;rw[h1,a,a];cases b<;>cases c
  ·show(t.FX.LM x p).wR q=_
   rw[Tr.aaW x p q];simp
  ·show t.FD.wR q=_
   simp
  ·show t.FX.wR q=_
   simp
  ·show(t.FD.LM x p).wR q=_
   rw[Tr.aaW x p q];simp
def YX:List Bool->Nat
 |[]=>0
 |b::p=>2*YX p+(if b then 1 else 2)
omit [aJ] in
def amQ:∀(f n:Nat),n<2^f->YX (SL f n)=n
 |0,n,h=>by
  have:n=0:=by simpa using h
  subst this;rfl
 |f+1,n,h=>by
  have c:SL (f+1) n=bif Nat.beq n 0 then[]else Nat.beq ((n-1)%2) 0::SL f ((n-1)/2):=rfl
  rw[c];by_cases b:n=0
  ·subst b;rfl
  ·have d:Nat.beq n 0=false:=by cases n with|zero=>exact absurd rfl b|succ n=>rfl
   rw[d];show 2*YX (SL f ((n-1)/2))+_=n
   have e:2^(f+1)=2*2^f:=by rw[MZ,Jk]
   rw[amQ f _ ah];rcases ae2 (n-1)with a|a
   ·rw[a];show 2*((n-1)/2)+1=n;omega
   ·rw[a];show 2*((n-1)/2)+2=n;omega
omit [aJ] in
def amP(n:Nat):YX (path n)=n:=amQ _ _ Nat.lt_log2_self
omit [aJ] in
def azc{n m:Nat}:path n=path m↔n=m:=⟨λh=>by rw[<-amP n,h,amP],λh=>by rw[h]⟩
omit [aJ] in
def Tr.yO{α:Type}(t:Tr α)(n m:Nat)(x:Option α):(t.set n x).get m=if m=n then x else t.get m:=by
 unfold Tr.get Tr.set;rw[Tr.aaW];by_cases h:m=n
 ·subst h;simp
 ·rw[aj h,aj (λe=>h (azc.1 e))]
omit [aJ] in
def aC.get_put(J:aC)(id a:Nat)(o:bP):(J.put id o).get a=if a=id then some o else J.get a:=Tr.yO _ _ _ _
omit [aJ] in
def aC.AL(J:aC)(id a:Nat):(J.kill id).get a=if a=id then none else J.get a:=Tr.yO _ _ _ _
omit [aJ] in
def aC.rD(J:aC)(a:Nat)(o:bP):(J.new o).get a=if a=J.next then some o else J.get a:=Tr.yO _ _ _ _
def bP.own:bP->Bool
 |.cells _ _ rw _=>rw
 |_=>true
structure vC(P:Program)(F:Env)(q:Place)(c:Q3)(et:TypeId)(rw opn:Bool)(cs:QR)(elem:TypeId)(fr:Nat×Nat):Prop where
 fits:q.ba+q.sz<=cs.size
 le:c.length<=q.sz
 shut:opn=false->c.length=q.sz
 cell:∀(k:Nat) a,c[k]? =some a->∃x,cs[q.ba+k]? =some x/\VR F a x
 free:rw=true->∀k,k<q.sz->¬(fr.1<=q.ba+k/\q.ba+k<fr.2)
 whole:et≠0->elem=et/\q.ba+q.sz=cs.size/\(opn=false->q.ba=0)
 room:opn=true->et≠0/\0<q.es/\sizeT P et=some q.es
def Ce(b:Wg)(a:GV):Prop:=match b with
 |some k=>∃n,a=.i k n
 |none=>∃s,a=.s s
def PV(sz:W2)(b:GV):Prop:=match sz with
 |none=>b.scalar=true
 |some n=>∃a,b=.g a/\a.length=n/\a.all GV.scalar=true
def vF(ro:Qf)(d:Wg)(sz:W2):Q1->List MapEntry->Prop
 |[],c=>c=[]
 |x::xs,c=>∃a b m rest,x=.g [a,b]/\c=m::rest/\Ce d a/\PV sz b/\GR ro a m.key/\GR ro b m.val/\vF ro d sz xs rest
def vF.mono{ro ro':Qf}(h:∀b o,ro b=some o->ro' b=some o){d:Wg}{sz:W2}:∀{xs:Q1}{c:List MapEntry},vF ro d sz xs c->vF ro' d sz xs c
 |[],c,r=>r
 |x::xs,c,r=>by obtain⟨a,b,m,rest,e,f,h1,g,i,j,h5⟩:=r;exact⟨a,b,m,rest,e,f,h1,g,GR.mono h _ _ i,GR.mono h _ _ j,vF.mono h h5⟩
def OR(P:Program)(F:Env)(q:Place)(w:World):bP->Prop
 |.cells c et rw opn=>∃cs elem h,w.heap[q.bl]? =some (.cells cs elem h)/\vC P F q c et rw opn cs elem h
 |.iter s pos=>w.heap[q.bl]? =some (.stringIter ⟨⟨s⟩⟩ pos)/\q.ba=0
 |.map es=>∃d a,w.heap[q.bl]? =some (.map d a)/\d.size=es.length/\∀(k:Nat) e,es[k]? =some e->∃m,d[k]? =some m/\VR F e.1 m.key/\VR F e.2 m.val
 |.vec n et f=>∃xs cs elem h i,aJ.val n=some (.l xs)/\w.heap[q.bl]? =some (.cells cs elem h)/\aU F.ro xs i/\(∀y∈i,y.cells.size=q.es)/\Hq cs q.ba (eP i)/\xs.length*q.es<=q.sz/\vC P F q [] et true true cs elem h/\(∀x∈xs,x.cells.all GV.scalar=true)/\(f=true->q.es<=q.sz)
 |.smap n j sz=>∃xs d a,aJ.val n=some (.l xs)/\w.heap[q.bl]? =some (.map d a)/\vF F.ro j sz xs d.toList
 |.pmap es=>(es.map (·.1)).Nodup/\∃d a g,w.heap[q.bl]? =some (.map d a)/\d.toList.Perm g/\g.length=es.length/\∀(k:Nat) e,es[k]? =some e->∃m,g[k]? =some m/\m.key=.string ⟨⟨e.1⟩⟩/\VR F e.2 m.val
 |.iterM none=>q.ba=0/\∃b last,w.heap[q.bl]? =some (.mapIter none b #[] last)
 |.iterM (some m)=>q.ba=0/\∃b last q',F m=some q'/\w.heap[q.bl]? =some (.mapIter (some q'.bl) b #[] last)
def vC.mono{P:Program}{F F':Env}(h:F.le F'){q:Place}{c:Q3}{et:TypeId}{rw opn:Bool}{cs:QR}{elem:TypeId}{b:Nat×Nat}
 (r:vC P F q c et rw opn cs elem b):vC P F' q c et rw opn cs elem b:=
 {r with cell:=λk a d=>by obtain⟨x,e,f⟩:=r.cell k a d;exact⟨x,e,VR.mono h _ _ f⟩}
def OR.mono{P:Program}{F F':Env}(h:F.le F'){q:Place}{w:World}{o:bP}(r:OR P F q w o):OR P F' q w o:=by
 cases o with
 |cells c D rw E=>obtain⟨p,b,t,d,g⟩:=r;exact⟨p,b,t,d,g.mono h⟩
 |iter s pos=>exact r
 |map es=>obtain⟨l,a,d,g,i⟩:=r;refine⟨l,a,d,g,λk e u=>?_⟩;obtain⟨m,v,x,y⟩:=i k e u;exact⟨m,v,VR.mono h _ _ x,VR.mono h _ _ y⟩
 |iterM m=>
  cases m with
  |none=>exact r
  |some m=>obtain⟨G,j,last,H,d,g⟩:=r;exact⟨G,j,last,H,h.pl _ _ d,g⟩
 |smap n S T=>obtain⟨z,l,a,d,g,i⟩:=r;exact⟨z,l,a,d,g,i.mono h.ro⟩
 |pmap es=>obtain⟨I,l,a,A,d,J,g,i⟩:=r;refine⟨I,l,a,A,d,J,g,λk e u=>?_⟩;obtain⟨m,v,x,y⟩:=i k e u;exact⟨m,v,x,VR.mono h _ _ y⟩
 |vec n D f=>obtain⟨z,p,b,t,L,d,g,i,M,N,O,Q,R⟩:=r;exact⟨z,p,b,t,L,d,g,aU.mono h.ro _ _ i,M,N,O,Q.mono h,R⟩
def OR.heap{P:Program}{F:Env}{q:Place}{w w':World}{o:bP}(h:w'.heap[q.bl]? =w.heap[q.bl]?)(r:OR P F q w o):OR P F q w' o:=by
 cases o with
 |iterM m=>cases m<;>simp only[OR]at r⊢<;>rw[h]<;>exact r
 |_=>simp only[OR]at r⊢;rw[h];exact r
def UK(a:AV)(x:Value):Prop:=a.toVal 4=some x\/∃k lo hi m,a=.z k lo hi/\x=.int k m/\lo<=m/\m<=hi
def Zv(c:Q3)(cs:QR):Prop:=(∀(k:Nat) a,c[k]? =some a->∃x,cs[k]? =some x/\UK a x)/\(c≠[]->cs.size=c.length)/\(c=[]->∃t q,cs[0]? =some (.iface t q))
def UK.vr{F:Env}{a:AV}{x:Value}(h:UK a x):VR F a x:=by
 rcases h with h|⟨k,lo,hi,m,rfl,rfl,b,c⟩
 ·exact amF 4 a x h
 ·simp only[VR];exact⟨m,b,c,rfl⟩
def GK(F:Env)(g:Nat)(c:Q3):Prop:=∃b a d,F.ro g=some (.cells b a d)/\c.length<=b.size/\Zv c b
def GK.mono{F F':Env}{g:Nat}{c:Q3}(h:GK F g c)(b:F.le F'):GK F' g c:=by obtain⟨d,a,e,f,i⟩:=h;exact⟨d,a,e,b.ro _ _ f,i⟩
def Live(P:Program)(F:Env)(w:World)(id:Nat)(o:bP):Prop:=(∃q,F id=some q/\OR P F q w o)\/(F.gh id=true/\∃n a f,o=.vec n a f/\aJ.val n=some (.l []))
def Live.mono{P:Program}{F F':Env}(h:F.le F'){w:World}{id:Nat}{o:bP}(r:Live P F w id o):Live P F' w id o:=by
 rcases r with⟨q,a,b⟩|⟨c,d⟩
 ·exact .inl ⟨q,h.pl _ _ a,b.mono h⟩
 ·exact .inr ⟨h.gh _ c,d⟩
def Live.heap{P:Program}{F:Env}{w w':World}{id:Nat}{o:bP}(r:Live P F w id o)(h:∀q,F id=some q->OR P F q w o->w'.heap[q.bl]? =w.heap[q.bl]?):Live P F w' id o:=by
 rcases r with⟨q,a,b⟩|c
 ·exact .inl ⟨q,a,OR.heap (h q a b) b⟩
 ·exact .inr c
structure SR(P:Program)(F:Env)(J:aC)(w:World):Prop where
 oO:∀g,g<=P.globals.size->∃sz es,F g=some ⟨g,0,sz,es⟩
 dom:∀id q,F id=some q->id<J.next
 live:∀id o,J.get id=some o->Live P F w id o
 kZ:∀id,F.gh id=true->F id=none/\id<J.next
 sep:∀id o id' o' q q',J.get id=some o->o.own=true->J.get id'=some o'->id≠id'->F id=some q->F id'=some q'->q.bl≠q'.bl
 jF:∀b o,F.ro b=some o->w.heap[b]? =some o
 ng:∀id o q,J.get id=some o->o.own=true->F id=some q->F.ro q.bl=none
 tabs:∀p∈aJ.tabs,GK F p.1 p.2
def bP.awF:bP->Bool
 |.vec _ _ _=>true
 |_=>false
def SR.obj{P:Program}{F:Env}{J:aC}{w:World}(h:SR P F J w):∀id o,J.get id=some o->o.awF=false->∃q,F id=some q/\OR P F q w o:=by
 intro id o a b;rcases h.live id o a with c|⟨_,n,d,f,rfl,_⟩
 ·exact c
 ·cases b
def SR.at{P:Program}{F:Env}{J:aC}{w:World}(h:SR P F J w){id:Nat}{o:bP}{q:Place}(c:J.get id=some o)(b:F id=some q):OR P F q w o:=by
 rcases h.live id o c with⟨f,a,d⟩|⟨e,_⟩
 ·rw[b]at a;cases a;exact d
 ·rw[(h.kZ id e).1]at b;cases b
structure St(P:Program)(F:Env)(J:aC)(w:World)(F':Env)(J':aC)(w':World):Prop where
 ext:F.le F'
 rel:SR P F' J' w'
 size:w.heap.size<=w'.heap.size
 keep:∀bl,bl<w.heap.size->(∀id o q,J.get id=some o->o.own=true->J.lock<=id->F id=some q->q.bl≠bl)->w'.heap[bl]? =w.heap[bl]?
 own:∀id o q,J'.get id=some o->o.own=true->J.lock<=id->F' id=some q->w.heap.size<=q.bl\/∃fA o0 q0,J.get fA=some o0/\o0.own=true/\J.lock<=fA/\F fA=some q0/\q0.bl=q.bl
 os:w'.os=w.os
 tape:w'.tape=w.tape
 output:w'.output=w.output
 lock:J'.lock=J.lock
 next:J.next<=J'.next
 new:∀id,F'.has id->F.has id\/(J.next<=id/\id<J'.next)
 tC:∀b,F'.ro b≠none->F.ro b≠none\/w.heap.size<=b\/∃fA o0 q0,J.get fA=some o0/\o0.own=true/\J.lock<=fA/\F fA=some q0/\q0.bl=b
def St.refl{P:Program}{F:Env}{J:aC}{w:World}(h:SR P F J w):St P F J w F J w:=
 ⟨Env.le.refl _,h,dP _,λ_ _ _=>rfl,λid o q a b c d=>.inr ⟨id,o,q,a,b,c,d,rfl⟩,rfl,rfl,rfl,rfl,dP _,λ_ h=>.inl h,λ_ h=>.inl h⟩
def St.trans{P:Program}{F F1 x:Env}{J y z:aC}{w w1 A:World}(h:St P F J w F1 y w1)(k:St P F1 y w1 x z A):St P F J w x z A:=by
 refine⟨h.ext.trans k.ext,k.rel,kW h.size k.size,?_,?_,k.os.trans h.os,k.tape.trans h.tape,k.output.trans h.output,k.lock.trans h.lock,kW h.next k.next,?_,?_⟩;rotate_right
 ·intro b G;rcases k.tC b G with h1|h1|⟨i,o0,j,p,r,s,d1,t⟩
  ·exact h.tC b h1
  ·exact .inr (.inl (kW h.size h1))
  ·rcases h.own i o0 j p r (h.lock▸s) d1 with g|⟨u,H,I,L,M,N,d2,O⟩
   ·right;left;omega
   ·exact .inr (.inr ⟨u,H,I,L,M,N,d2,O.trans t⟩)
 rotate_right
 ·intro id Q;rcases k.new id Q with h1|⟨h1,g⟩
  ·rcases h.new id h1 with f|⟨f,l⟩
   ·exact .inl f
   ·exact .inr ⟨f,zH l k.next⟩
  ·exact .inr ⟨Nat.le_trans h.next h1,g⟩
 ·intro D m n;rw[k.keep D (zH m h.size) ?_,h.keep D m n];intro id o q h1 g f l;rcases h.own id o q h1 g (h.lock▸f) l with E|⟨i,o0,j,a,b,c,d,e⟩
  ·omega
  ·rw[<-e];exact n i o0 j a b c d
 ·intro id o q h1 g f l;rcases k.own id o q h1 g (by rw[h.lock];exact f) l with E|⟨i,o0,j,a,b,c,d,e⟩
  ·exact .inl (kW h.size E)
  ·rcases h.own i o0 j a b (h.lock▸c) d with S|⟨v,o1,R,p,r,s,d1,t⟩
   ·left;omega
   ·exact .inr ⟨v,o1,R,p,r,s,d1,t.trans e⟩
def SR.hasLt{P:Program}{F:Env}{J:aC}{w:World}(h:SR P F J w){id:Nat}(a:F.has id):id<J.next:=a.elim (λ⟨q,b⟩=>h.dom id q b) λc=>(h.kZ id c).2
def SR.Rk{P:Program}{F:Env}{J:aC}{w:World}(h:SR P F J w){id:Nat}{o:bP}(a:J.get id=some o):F.has id:=(h.live id o a).elim (λ⟨q,b,_⟩=>.inl ⟨q,b⟩) λ⟨c,_⟩=>.inr c
def St.ayt{P:Program}{F F':Env}{J J':aC}{w w':World}(h:St P F J w F' J' w'){id:Nat}{q:Place}(a:F' id=some q):F id=some q\/(J.next<=id/\id<J'.next):=by
 rcases h.new id (.inl ⟨q,a⟩)with(⟨p,b⟩|c)|d
 ·have:=h.ext.pl _ _ b;rw[a]at this;cases this;exact .inl b
 ·have:=(h.rel.kZ id (h.ext.gh _ c)).1;rw[a]at this;cases this
 ·exact .inr d
def SR.drew{P:Program}{F:Env}{J:aC}{w:World}(h:SR P F J w):SR P F J {w with drawn:=w.drawn+1}:=
 ⟨h.oO,h.dom,λid o a=>(h.live id o a).heap (w:=w) (λ_ _ _=>rfl),h.kZ,h.sep,h.jF,h.ng,h.tabs⟩
def St.drew{P:Program}{F:Env}{J:aC}{w:World}(h:SR P F J w):St P F J w F J {w with drawn:=w.drawn+1}:=
 ⟨Env.le.refl _,h.drew,dP _,λ_ _ _=>rfl,λid o q a b c d=>.inr ⟨id,o,q,a,b,c,d,rfl⟩,rfl,rfl,rfl,rfl,dP _,λ_ h=>.inl h,λ_ h=>.inl h⟩
def tX(bl off n:Nat):(⟨bl,off,none⟩:Addr).add n=⟨bl,off+n,none⟩:=by
 unfold Addr.add;split
 ·next h=>simp[h]
 ·rfl
def QH{w:World}{bl off:Nat}{cs:QR}{elem:TypeId}{a:Nat×Nat}(h:w.heap[bl]? =some (.cells cs elem a)):
 w.cell? ⟨bl,off,none⟩=cs[off]?:=by
 simp[World.cell?,h]
def ahH{w:World}{bl off:Nat}{cs:QR}{elem:TypeId}{a:Nat×Nat}(h:w.heap[bl]? =some (.cells cs elem a)):
 w.frozen? ⟨bl,off,none⟩=(decide (a.1<=off)&&decide (off<a.2)):=by
 simp[World.frozen?,h]
def run_loadCellsFrom{P:Program}{w:World}{bl off:Nat}{cs:QR}{elem:TypeId}{c:Nat×Nat}(h:w.heap[bl]? =some (.cells cs elem c)):
 ∀(n i:Nat)(a:QR),off+i+n<=cs.size->
  (loadCellsFrom ⟨bl,off,none⟩ i n a).run P w=.ok (a++(cs.toList.drop (off+i)).take n) w:=by
 intro n;induction n with
 |zero=>intro i a _;simp[loadCellsFrom]
 |succ n d=>
  intro i a e;have b:off+i<cs.size:=ah;have f:w.cell? ⟨bl,off+i,none⟩=some cs[off+i]:=by rw[QH h];simp[b]
  simp only[loadCellsFrom,aZ,tX];have g:(load ⟨bl,off+i,none⟩).run P w=.ok cs[off+i] w:=by simp[load,Sem.run,f]
  rw[g];simp only[aY];rw[d (i+1) _ ah];congr 1;have:cs.toList.drop (off+i)=cs[off+i]::cs.toList.drop (off+(i+1)):=by rw[iR (by simpa using b)];simp[kC]
  rw[this];simp
def run_loadCells{P:Program}{w:World}{bl off n:Nat}{cs:QR}{elem:TypeId}{b:Nat×Nat}(h:w.heap[bl]? =some (.cells cs elem b))(a:off+n<=cs.size):
 (loadCells ⟨bl,off,none⟩ n).run P w=.ok ⟨(cs.toList.drop off).take n⟩ w:=by
 unfold loadCells;rw[run_loadCellsFrom h n 0 #[] (by simpa using a)];simp
def alE{P:Program}{w:World}{bl off:Nat}{cs:QR}{elem:TypeId}{a:Nat×Nat}{x:Value}(h:w.heap[bl]? =some (.cells cs elem a))(b:cs[off]? =some x):
 (load ⟨bl,off,none⟩).run P w=.ok x w:=by
 have c:w.cell? ⟨bl,off,none⟩=some x:=by rw[QH h,b]
 simp[load,Sem.run,c]
def setFrom(cs:QR)(off:Nat):Q6->Array Value
 |[]=>cs
 |v::vs=>setFrom (cs.setIfInBounds off v) (off+1) vs
def Pj:∀(vs:Q6)(cs:QR)(off:Nat),(setFrom cs off vs).size=cs.size
 |[],_,_=>rfl
 |v::vs,cs,off=>by rw[setFrom,Pj vs];simp
def Yi:∀(vs:Q6)(cs:QR)(off k:Nat),off+vs.length<=cs.size->
 (setFrom cs off vs)[k]? =if off<=k/\k<off+vs.length then vs[k-off]? else cs[k]?
 |[],cs,off,k,h=>by simp[setFrom];omega
 |v::vs,cs,off,k,h=>by
  simp only[iD]at h;rw[setFrom,Yi vs _ _ _ (by simp;omega)];by_cases h1:off+1<=k/\k<off+1+vs.length
  ·rw[au h1,au ⟨ah,by simp;omega⟩];have:k-off=(k-(off+1))+1:=ah;rw[this];simp
  ·rw[aj h1];by_cases a:k=off
   ·subst a;rw[au ⟨Nat.le_refl _,aA⟩];have b:k<cs.size:=ah;simp[b]
   ·rw[aj (by simp only[iD];omega)];rw[Es,aj (λe=>a e.symm)]
def pW(w:World)(bl:Nat)(o:Obj):World:={w with heap:=w.heap.setIfInBounds bl o}
def Ed{w:World}{bl:Nat}{o o':Obj}(h:w.heap[bl]? =some o):(pW w bl o').heap[bl]? =some o':=by have:bl<w.heap.size:=(tH.1 h).1;simp[pW,this]
def FZ{w:World}{bl k:Nat}{o':Obj}(h:k≠bl):(pW w bl o').heap[k]? =w.heap[k]?:=by simp only[pW];rw[Es,aj (λe=>h e.symm)]
def F5{w:World}{bl:Nat}{o':Obj}:(pW w bl o').heap.size=w.heap.size:=by simp[pW]
def aDz{w:World}{bl:Nat}{o o':Obj}:pW (pW w bl o) bl o'=pW w bl o':=by simp only[pW];congr 1;apply Uj;intro i;simp only[Es,Array.size_setIfInBounds];split<;>rfl
def setCell_eq{w:World}{bl off:Nat}{cs:QR}{elem:TypeId}{a:Nat×Nat}(h:w.heap[bl]? =some (.cells cs elem a))(v:Value):
 w.setCell ⟨bl,off,none⟩ v=pW w bl (.cells (cs.setIfInBounds off v) elem a):=by
 unfold World.setCell pW;congr 1;apply Uj;intro i;rw[MC,Es];by_cases e:bl=i
 ·subst e;have:bl<w.heap.size:=(tH.1 h).1;rw[au rfl,au rfl,au this,h];rfl
 ·rw[aj e,aj e]
def aDy{w:World}{bl:Nat}{o:Obj}(h:w.heap[bl]? =some o):pW w bl o=w:=by
 unfold pW;have:w.heap.setIfInBounds bl o=w.heap:=by
  apply Uj;intro i;rw[Es];by_cases e:bl=i
  ·subst e;have:bl<w.heap.size:=(tH.1 h).1;rw[au rfl,au this,h]
  ·rw[aj e]
 rw[this]
def sW:Value->Bool
 |.agg _|.tuple _=>false
 |_=>true
def adx{P:Program}:∀(vs:Q6)(w:World)(bl off i:Nat)(cs:QR)(elem:TypeId)(a:Nat×Nat),
 w.heap[bl]? =some (.cells cs elem a)->off+i+vs.length<=cs.size->(∀v∈vs,sW v=true)->
 (∀k,off+i<=k->k<off+i+vs.length->¬(a.1<=k/\k<a.2))->
 (storeCells ⟨bl,off,none⟩ vs i).run P w=.ok () (pW w bl (.cells (setFrom cs (off+i) vs) elem a))
 |[],w,bl,off,i,cs,elem,a,h,_,_,_=>by simp[storeCells,setFrom,aDy h]
 |v::vs,w,bl,off,i,cs,elem,a,h,d,b,c=>by
  simp only[iD]at d c;have e:off+i<cs.size:=ah;have f:w.cell? ⟨bl,off+i,none⟩=some cs[off+i]:=by rw[QH h];simp[e]
  have g:w.frozen? ⟨bl,off+i,none⟩=false:=by rw[ahH h];have:=c (off+i) ah ah;simpa using this
  have j:=b v aA;have l:(store ⟨bl,off+i,none⟩ v).run P w=.ok () (pW w bl (.cells (cs.setIfInBounds (off+i) v) elem a)):=by rw[<-setCell_eq h];cases v<;>simp[sW]at j<;>simp[store,Sem.run,f,g]
  simp only[storeCells,aZ,tX,l,aY];rw[adx vs _ bl off (i+1) (cs.setIfInBounds (off+i) v) elem a (Ed h) (by simp;omega) (λx m=>b x (by simp[m])) (λk n o=>c k ah ah)];rw[aDz];rfl
def Env.put(F:Env)(id:Nat)(q:Place):Env:=⟨λk=>if k=id then some q else F k,F.ro,F.gh⟩
def Env.IK{P:Program}{F:Env}{J:aC}{w:World}(h:SR P F J w)(q:Place):F.le (F.put J.next q):=by refine⟨λid p a=>?_,λ_ _ h=>h,λ_ h=>h⟩;have:=h.dom id p a;simp only[Env.put];rw[aj ah];exact a
def xP{w:World}{k:Nat}{o:Obj}(h:w.heap[k]? =some o):k<w.heap.size:=(tH.1 h).1
def OR.lt{P:Program}{F:Env}{q:Place}{w:World}{o:bP}(h:OR P F q w o):q.bl<w.heap.size:=by
 cases o with
 |cells c e rw g=>obtain⟨i,d,j,a,_⟩:=h;exact xP a
 |iter s pos=>exact xP h.1
 |map es=>obtain⟨k,b,a,_⟩:=h;exact xP a
 |iterM m=>cases m with
  |none=>obtain⟨_,_,_,a⟩:=h;exact xP a
  |some m=>obtain⟨_,_,_,_,_,a⟩:=h;exact xP a
 |vec n e f=>obtain⟨_,_,_,_,_,_,a,_⟩:=h;exact xP a
 |smap n l p=>obtain⟨_,_,_,_,a,_⟩:=h;exact xP a
 |pmap es=>obtain⟨_,_,_,_,a,_⟩:=h;exact xP a
def Env.adg{P:Program}{F:Env}{J:aC}{w:World}(h:SR P F J w)(q:Place){n:Nat}(c:J.next<n):∀id,(F.put J.next q).gh id=true->(F.put J.next q) id=none/\id<n:=by intro id a;obtain⟨b,d⟩:=h.kZ id a;refine⟨?_,ah⟩;simp only[Env.put];rw[aj ah];exact b
def St.alloc{P:Program}{F:Env}{J:aC}{w:World}(h:SR P F J w)(o:bP)(u:Obj)(q:Place)(Q:q.bl=w.heap.size)
 (H:OR P (F.put J.next q) q {w with heap:=w.heap.push u} o):St P F J w (F.put J.next q) (J.new o) {w with heap:=w.heap.push u}:=by
 have c:=Env.IK h q;have i:∀k,k<w.heap.size->(w.heap.push u)[k]? =w.heap[k]?:=λk R=>by rw[P6,aj ah]
 have E:∀b o,F.ro b=some o->b<w.heap.size:=λb o t=>xP (h.jF b o t);refine⟨c,⟨?_,?_,?_,Env.adg h q (Ew _),?_,λb o t=>?_,λid o1 p v I r=>?_,λp d=>(h.tabs p d).mono c⟩,aA,λbl x _=>i bl x,?_,rfl,rfl,rfl,rfl,Nat.le_succ _,?_,λ_ h=>.inl h⟩;rotate_right
 ·rintro id (⟨p,d⟩|y)
  ·simp only[Env.put]at d;split at d
   ·next e=>subst e;exact .inr ⟨Nat.le_refl _,Ew _⟩
   ·exact .inl (.inl ⟨p,d⟩)
  ·exact .inl (.inr y)
 ·intro g y;obtain⟨L,es,a⟩:=h.oO g y;exact⟨L,es,c.pl _ _ a⟩
 ·intro id p d;simp only[Env.put]at d;show id<J.next+1
  split at d
  ·omega
  ·have:=h.dom id p d;omega
 ·intro id M f;rw[aC.rD]at f;split at f
  ·next e=>cases f;subst e;exact .inl ⟨q,by simp[Env.put],H⟩
  ·exact((h.live id M f).heap (w:=w) (λp _ N=>i _ N.lt)).mono c
 ·intro id o1 z G p O a A n j l m;rw[aC.rD]at a n;simp only[Env.put]at l m;split at a<;>split at n
  ·omega
  ·next e s=>
   rw[au e]at l;rw[aj s]at m;cases l;have:=(h.at n m).lt;omega
  ·next e s=>
   rw[aj e]at l;rw[au s]at m;cases m;have:=(h.at a l).lt;omega
  ·next e s=>
   rw[aj e]at l;rw[aj s]at m;exact h.sep id o1 z G p O a A n j l m
 ·exact(i b (E b o t)).trans (h.jF b o t)
 ·rw[aC.rD]at v;simp only[Env.put]at r⊢;split at v
  ·next e=>
   rw[au e]at r;cases r;cases D:F.ro q.bl with
   |none=>rfl
   |some G=>have:=E _ _ D;omega
  ·next e=>rw[aj e]at r;exact h.ng id o1 p v I r
 ·intro id o1 p a A n j;rw[aC.rD]at a;simp only[Env.put]at j;split at a
  ·next e=>rw[au e]at j;cases j;left;omega
  ·next e=>rw[aj e]at j;exact .inr ⟨id,o1,p,a,A,n,j,rfl⟩
def St.write{P:Program}{F:Env}{J:aC}{w w':World}(h:SR P F J w){id:Nat}{o o':bP}{q:Place}(l:J.get id=some o)(m:o.own=true)(D:J.lock<=id)
 (n:F id=some q) (H:w'.heap.size=w.heap.size) (v:∀k,k≠q.bl->w'.heap[k]? =w.heap[k]?) (h1:w'.os=w.os) (I:w'.tape=w.tape) (L:w'.output=w.output)
 (M:OR P F q w' o'):St P F J w F (J.put id o') w':=by
 have r:=h.ng id o q l m n;refine⟨Env.le.refl _,⟨h.oO,h.dom,?_,h.kZ,?_,λb j u=>?_,λi j p x N y=>?_,h.tabs⟩,ah,?_,?_,h1,I,L,rfl,dP _,λ_ h=>.inl h,λ_ h=>.inl h⟩
 ·intro s j t;rw[aC.get_put]at t;split at t
  ·next e=>cases t;subst e;exact .inl ⟨q,n,M⟩
  ·next e=>exact(h.live s j t).heap (w:=w) λp O _=>v _ (h.sep id o s j q p l m t (λQ=>e Q.symm) n O).symm
 ·intro g o1 i j p z a b c d e f;rw[aC.get_put]at a c;split at a<;>split at c
  ·omega
  ·next E G=>subst E;exact h.sep g o i j p z l m c d e f
  ·next E G=>subst G;exact h.sep g o1 i o p z a b l d e f
  ·exact h.sep g o1 i j p z a b c d e f
 ·rw[v b (λe=>by rw[e]at u;rw[r]at u;cases u)];exact h.jF b j u
 ·rw[aC.get_put]at x;split at x
  ·next e=>subst e;rw[n]at y;cases y;exact r
  ·exact h.ng i j p x N y
 ·intro bl R A;exact v bl (A id o q l m D n).symm
 ·intro g o1 p a b c d;rw[aC.get_put]at a;split at a
  ·next e=>subst e;exact .inr ⟨g,o,p,l,m,D,d,rfl⟩
  ·exact .inr ⟨g,o1,p,a,b,c,d,rfl⟩
def St.again{P:Program}{F:Env}{J:aC}{w w':World}(h:SR P F J w){id:Nat}{o o':bP}{q q':Place}(j:J.get id=some o)(x:o.own=true)(N:J.lock<=id)
 (t:F id=some q) (m:q'.bl=q.bl) (Q:w'.heap.size=w.heap.size) (G:∀k,k≠q.bl->w'.heap[k]? =w.heap[k]?) (h1:w'.os=w.os) (R:w'.tape=w.tape) (S:w'.output=w.output)
 (T:OR P (F.put J.next q') q' w' o'):St P F J w (F.put J.next q') ((J.kill id).new o') w':=by
 have n:=Env.IK h q';have U:id<J.next:=h.dom id q t;have get:∀k,((J.kill id).new o').get k=if k=J.next then some o' else if k=id then none else J.get k:=λk=>by rw[aC.rD,aC.AL];rfl
 have y:=h.ng id o q j x t;refine⟨n,⟨?_,?_,?_,Env.adg h q' (Ew _),?_,λb l H=>?_,λr l p z V A=>?_,λp i=>(h.tabs p i).mono n⟩,ah,?_,?_,h1,R,S,rfl,Nat.le_succ _,?_,λ_ h=>.inl h⟩;rotate_right
 ·rintro id (⟨p,i⟩|j)
  ·simp only[Env.put]at i;split at i
   ·next e=>subst e;exact .inr ⟨Nat.le_refl _,Ew _⟩
   ·exact .inl (.inl ⟨p,i⟩)
  ·exact .inl (.inr j)
 ·intro g j;obtain⟨W,es,h1⟩:=h.oO g j;exact⟨W,es,n.pl _ _ h1⟩
 ·intro k p i;simp only[Env.put]at i;show k<J.next+1
  split at i
  ·omega
  ·have:=h.dom k p i;omega
 ·intro k l u;rw[get]at u;split at u
  ·next e=>cases u;subst e;exact .inl ⟨q',by simp[Env.put],T⟩
  ·split at u
   ·cases u
   ·next e v=>exact((h.live k l u).heap (w:=w) λp i _=>G _ (h.sep id o k l q p j x u (λI=>v I.symm) t i).symm).mono n
 ·intro s o1 r l p O a b c d e f;rw[get]at a c;simp only[Env.put]at e f;split at a<;>split at c
  ·omega
  ·next D v=>
   split at c
   ·cases c
   ·next L=>
    rw[au D]at e;rw[aj v]at f;cases e;rw[m];exact h.sep id o r l q O j x c (λI=>L I.symm) t f
  ·next D v=>
   split at a
   ·cases a
   ·next L=>
    rw[aj D]at e;rw[au v]at f;cases f;rw[m];exact h.sep s o1 id o p q a b j L e t
  ·next D v=>
   split at a
   ·cases a
   ·split at c
    ·cases c
    ·rw[aj D]at e;rw[aj v]at f;exact h.sep s o1 r l p O a b c d e f
 ·rw[G b (λe=>by rw[e]at H;have E:F.ro q.bl=some l:=H;rw[y]at E;cases E)];exact h.jF b l H
 ·rw[get]at z;simp only[Env.put]at A⊢;split at z
  ·next e=>rw[au e]at A;cases A;rw[m];exact y
  ·next e=>
   rw[aj e]at A;split at z
   ·cases z
   ·exact h.ng r l p z V A
 ·intro bl X M;exact G bl (M id o q j x N t).symm
 ·intro s o1 p a b c d;rw[get]at a;simp only[Env.put]at d;split at a
  ·next e=>rw[au e]at d;cases d;exact .inr ⟨id,o,q,j,x,N,t,m.symm⟩
  ·next e=>
   rw[aj e]at d;split at a
   ·cases a
   ·exact .inr ⟨s,o1,p,a,b,c,d,rfl⟩
def SR.sub{P:Program}{F:Env}{J τ:aC}{w:World}(h:SR P F J w)(i:∀id o,τ.get id=some o->J.get id=some o)(k:J.next<=τ.next):SR P F τ w:=
 ⟨h.oO,λid q l=>zH (h.dom id q l) k,λid o m=>h.live id o (i id o m),λid g=>⟨(h.kZ id g).1,zH (h.kZ id g).2 k⟩,
  λid o j n q p a b c d e f=>h.sep id o j n q p (i _ _ a) b (i _ _ c) d e f,h.jF,λid o q a b c=>h.ng id o q (i _ _ a) b c,h.tabs⟩
def St.sub{P:Program}{F F':Env}{J J' τ:aC}{w w':World}(h:St P F J w F' J' w')(f:∀id o,τ.get id=some o->J'.get id=some o)(e:J'.next<=τ.next)(g:τ.lock=J'.lock):St P F J w F' τ w':=
 {h with rel:=h.rel.sub f e,own:=λid o q a b c d=>h.own id o q (f _ _ a) b c d,lock:=g.trans h.lock,next:=kW h.next e,new:=λid i=>(h.new id i).imp (λx=>x) λ⟨a,b⟩=>⟨a,zH b e⟩}
