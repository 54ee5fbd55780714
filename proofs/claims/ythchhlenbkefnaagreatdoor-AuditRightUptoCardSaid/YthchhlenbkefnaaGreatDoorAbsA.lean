/- Ground values, and the nodes by which a symbolic run names them. -/
import Derived.Calls
import Derived.Below
import Derived.Orders
import Derived.LoopN
import Derived.KernelRfl
import Derived.Laws.Strings
import Derived.WalkKit
set_option linter.all false
namespace Go.aN
abbrev XS:=List (Nat×FuncId)
abbrev YY:=Option Bool
abbrev Ys:=List (Int×Int×Int)
abbrev WN:=Option Addr
abbrev WD:=List (Nat×Nat)
abbrev Wz:=Option Value
abbrev Wr:=Array TypeId
abbrev Wg:=List (Nat×Bool)
abbrev Wf:=Option IntKind
abbrev W6:=List (Option FuncId)
abbrev W5:=Array Oper
abbrev QR:=Option Nat
abbrev W7:=List (Nat×QR)
abbrev QQ:=Array Value
abbrev Qf:=Nat->Option Obj
abbrev Q6:=List Value
abbrev Q2:=List Nat
abbrev XN:=List (Q2×Nat)
abbrev Q0:=List UInt8
abbrev Wc:=List Q0
noncomputable section
abbrev ah:=@if_neg
abbrev aj:=@if_pos
abbrev aK:=@Bool.and_eq_true
abbrev aU:=@Result.andThen_ok
abbrev aV:=@Sem.run_bind
abbrev aX:=@List.nil_append
abbrev aY:=@Option.some.injEq
abbrev bg:=@List.cons_append
abbrev bC:=@Option.map_eq_some_iff
abbrev bH:=@List.mem_cons
abbrev bJ:=@Sem.run_pure
abbrev bK:=@Nat.eq_of_beq_eq_true
abbrev bT:=@List.getElem?_eq_getElem
abbrev dD:=@Nat.le_refl
abbrev dN:=@List.drop_zero
abbrev eP:=@List.length_append
abbrev fH:=@List.length_drop
abbrev fM:=@List.getElem?_eq_some_iff
abbrev gG:=@List.length_map
abbrev gV:=@List.length_cons
abbrev gW:=@Int.le_refl
abbrev gX:=@List.getElem_mem
abbrev gZ:=@Option.map_some
abbrev iw:=@Bool.false_eq_true
abbrev iC:=@List.drop_eq_getElem_cons
abbrev iP:=@List.map_cons
abbrev iY:=@List.getElem?_map
abbrev iZ:=@List.pairwise_cons
abbrev jB:=@Nat.blt_eq
abbrev jH:=@List.eq_nil_of_length_eq_zero
abbrev jI:=@List.map_nil
abbrev jJ:=@List.mem_append
abbrev jK:=@List.mem_singleton
abbrev jL:=@Nat.add_assoc
abbrev kE:=@List.flatMap_cons
abbrev kF:=@Nat.le_trans
abbrev kX:=@List.getElem?_cons_zero
abbrev kY:=@List.length_nil
abbrev lG:=@List.take_of_length_le
abbrev lN:=@List.length_take
abbrev lQ:=@Nat.zero_add
abbrev mg:=@List.getElem?_take
abbrev nM:=@List.map_append
abbrev og:=@List.getElem?_append_left
abbrev oK:=@Bool.or_eq_true
abbrev oL:=@Nat.add_zero
abbrev pF:=@Prod.mk.injEq
abbrev qp:=@List.append_nil
abbrev qw:=@List.lt_irrefl
abbrev qy:=@Nat.xor_assoc
abbrev rG:=@Array.getElem?_eq_some_iff
abbrev rH:=@List.all_cons
abbrev rJ:=@List.drop_drop
abbrev rM:=@List.mem_map
abbrev rQ:=@List.mem_of_getElem?
abbrev rV:=@Option.getD_some
abbrev sW:=@Int.natCast_zero
abbrev tu:=@List.drop_left
abbrev tC:=@List.getElem?_drop
abbrev tH:=@Nat.add_mul
abbrev tJ:=@Nat.zero_le
abbrev uf:=@congrArg
abbrev uD:=@Nat.mul_le_mul_right
abbrev uF:=@Option.getD_none
abbrev vw:=@BitVec.toNat_ofInt
abbrev vC:=@Nat.le_of_ble_eq_true
abbrev wC:=@Bool.not_eq_true'
abbrev wE:=@List.getElem?_cons_succ
abbrev wG:=@List.getElem?_eq_none
abbrev wJ:=@Sem.run_ite
abbrev xF:=@Array.getElem?_toList
abbrev xG:=@Int.toNat_natCast
abbrev xH:=@List.cons.injEq
abbrev xI:=@List.getElem?_append_right
abbrev xM:=@Option.bind_eq_some_iff
abbrev yI:=@Bool.eq_iff_iff
abbrev yK:=@List.mem_cons_of_mem
abbrev yM:=@Nat.lt_of_lt_of_le
abbrev yN:=@Nat.lt_or_ge
abbrev zC:=@List.getD_eq_getElem?_getD
abbrev Af:=@Array.getD_eq_getD_getElem?
abbrev Ag:=@Bool.false_or
abbrev Ai:=@List.lt_trans
abbrev Aj:=@List.mem_range
abbrev Ak:=@List.take_length
abbrev Am:=@List.take_succ_cons
abbrev Aq:=@Option.bind_some
abbrev Bq:=@of_decide_eq_true
abbrev BM:=@List.mem_filter
abbrev BN:=@List.not_lt
abbrev BP:=@Nat.sub_self
abbrev DN:=@Array.getElem?_eq_getElem
abbrev DR:=@Array.getElem?_setIfInBounds
abbrev DU:=@List.mem_of_getLast?
abbrev DV:=@List.take_add
abbrev DW:=@Nat.lt_succ_self
abbrev Ed:=@decide_eq_false
abbrev FK:=@Bool.true_and
abbrev FN:=@Int.fdiv_eq_ediv_of_nonneg
abbrev FP:=@Int.natCast_add
abbrev FQ:=@List.getElem?_toArray
abbrev FT:=@List.length_singleton
abbrev Gq:=@decide_eq_true
abbrev Ij:=@Array.getElem?_push
abbrev Il:=@Int.toNat_of_nonneg
abbrev Io:=@List.drop_eq_nil_of_le
abbrev Ip:=@List.ext_getElem?
abbrev Iq:=@List.length_set
abbrev Ir:=@List.mem_nil_iff
abbrev Iu:=@List.take_append_drop
abbrev Iy:=@Nat.mul_comm
abbrev Iz:=@Nat.one_mul
abbrev IB:=@Nat.sub_zero
abbrev IC:=@Option.some.inj
abbrev Lc:=@Array.getElem?_modify
abbrev Ld:=@Array.length_toList
abbrev Le:=@Bool.or_false
abbrev Lp:=@List.drop_take
abbrev Lr:=@List.getElem?_of_mem
abbrev Ls:=@List.length_pos_iff
abbrev Lu:=@List.mem_of_mem_drop
abbrev LC:=@List.mem_of_mem_take
abbrev LD:=@Nat.add_comm
abbrev LH:=@Nat.le_of_eq
abbrev LJ:=@Nat.min_eq_left
abbrev LK:=@Nat.pow_succ
abbrev LM:=@Option.isNone_some
abbrev LP:=@Prod.exists
abbrev OV:=@Array.ext'
abbrev OY:=@Int.le_trans
abbrev OZ:=@List.mem_cons_self
abbrev O0:=@List.replicate_succ
abbrev O1:=@List.singleton_append
abbrev O4:=@Nat.mod_eq_of_lt
abbrev O5:=@Nat.mul_pos
abbrev O7:=@Prod.ext
abbrev SG:=@Array.ext_getElem?
abbrev SH:=@Bool.and_true
abbrev SK:=@Classical.em
abbrev SS:=@List.filter_cons
abbrev SV:=@List.le_antisymm
abbrev SX:=@List.pairwise_iff_getElem
abbrev SY:=@List.take_add_one
abbrev S9:=@List.take_append_of_le_length
abbrev Tc:=@List.take_left
abbrev Td:=@List.take_zero
abbrev Tf:=@Nat.add_sub_cancel'
abbrev Ti:=@Nat.eq_zero_or_pos
abbrev Tj:=@Nat.mul_div_cancel
abbrev Tn:=@Nat.pow_le_pow_right
abbrev Tq:=@Nat.testBit_or
abbrev Yl:=@Array.getElem?_append_left
abbrev Ym:=@Array.mapM_eq_mapM_toList
abbrev Yn:=@BitVec.toNat_and
abbrev Yo:=@Bool.false_and
abbrev Yp:=@Bool.not_eq_false
abbrev Yq:=@Bool.not_true
abbrev Yr:=@List.drop_append_of_le_length
abbrev Yt:=@List.drop_sublist
abbrev Yu:=@List.drop_succ_cons
abbrev Yv:=@List.findIdx?_cons
abbrev Yw:=@List.head?_cons
abbrev Yx:=@List.length_eq_one_iff
abbrev Yy:=@List.length_filter_le
abbrev Yz:=@List.map_set
abbrev YA:=@List.mem_append_left
abbrev YB:=@List.mem_flatMap
abbrev YC:=@List.mem_iff_getElem?
abbrev YE:=@Nat.add_sub_cancel_left
abbrev YF:=@Nat.mul_le_mul_left
abbrev YG:=@Option.isSome_some
abbrev YH:=@Sem.run_map
abbrev YK:=@UInt8.toNat_inj
abbrev YL:=@World.ownsRow_made
abbrev adL:=@Array.eq_empty_of_size_eq_zero
abbrev adM:=@Array.map_empty
abbrev adN:=@Array.size_range
abbrev adO:=@BitVec.toNat_not
abbrev adP:=@BitVec.toNat_or
abbrev adQ:=@BitVec.xor_allOnes
abbrev adZ:=@Int.lt_or_le
abbrev ad1:=@Int.zero_add
abbrev ad2:=@List.Perm.refl
abbrev ad3:=@List.all_append
abbrev ad4:=@List.all_nil
abbrev ad5:=@List.any_cons
abbrev ad6:=@List.any_eq_false
abbrev ad7:=@List.cons_lt_cons_iff
abbrev ad8:=@List.contains_iff_mem
abbrev ad9:=@List.drop_append
abbrev aea:=@List.filter_append
abbrev aeb:=@List.filter_sublist
abbrev aec:=@List.flatMap_append
abbrev aed:=@List.getElem?_range
abbrev aee:=@List.getElem?_set
abbrev aef:=@List.length_eq_zero_iff
abbrev aeg:=@List.mapM_cons
abbrev aeh:=@List.map_take
abbrev aei:=@List.mem_append_right
abbrev aej:=@List.mem_or_eq_of_mem_set
abbrev aek:=@List.mem_replicate
abbrev ael:=@List.pairwise_append
abbrev aem:=@List.take_take
abbrev aen:=@Nat.and_two_pow_sub_one_eq_mod
abbrev aeo:=@Nat.ble_eq_true_of_le
abbrev aep:=@Nat.le_mul_of_pos_right
abbrev aer:=@Nat.mod_two_eq_zero_or_one
abbrev aes:=@Nat.mul_assoc
abbrev aev:=@Option.isSome_none
abbrev aew:=@Option.map_eq_none_iff
abbrev aex:=@Option.map_none
abbrev aey:=@Option.toList_some
abbrev aeB:=@UInt8.toNat_ofNat'
abbrev aeE:=@World.cell?_of_block
abbrev amz:=@Classical.choose_spec
abbrev amA:=@List.concat_eq_append
abbrev amB:=@List.eq_nil_or_concat
abbrev amC:=@List.filter_cons_of_neg
abbrev amD:=@List.filter_cons_of_pos
abbrev amE:=@List.filter_eq_nil_iff
abbrev amF:=@List.mem_zipIdx_iff_getElem?
abbrev amG:=@List.perm_append_comm
abbrev amI:=@Nat.two_pow_add_eq_or_of_lt
abbrev amJ:=@Option.isSome_iff_exists
abbrev amK:=@Option.ne_none_iff_exists'
inductive GV where
 |b (x:Bool)
 |i (k:IntKind) (n:Int)
 |s (x:Q0)
 |l (xs:List GV)
 |g (cs:List GV)
 deriving Inhabited
abbrev Wa:=Nat->Option GV
abbrev W3:=Option GV
abbrev Q1:=List GV
abbrev Wo:=Option Q1
def GV.cells:GV->List GV
 |.g cs=>cs
 |v=>[v]
def GV.scalar:GV->Bool
 |.g _=>false
 |_=>true
def GV.fP(size:Nat)(g:GV):Bool:=Nat.beq g.cells.length size&&g.cells.all GV.scalar
def bV(c:BinOp)(k:IntKind)(a b:Int):W3:=
 match c with
 |.add=>some (.i k (k.wrap (a+b)))
 |.sub=>some (.i k (k.wrap (a-b)))
 |.mul=>some (.i k (k.wrap (a*b)))
 |.quo=>if b=0 then none else some (.i k (k.wrap (a.tdiv b)))
 |.rem=>if b=0 then none else some (.i k (a.tmod b))
 |.and=>some (.i k (k.wrap (BitVec.ofInt k.bits a &&& BitVec.ofInt k.bits b).toNat))
 |.or=>some (.i k (k.wrap (BitVec.ofInt k.bits a |||BitVec.ofInt k.bits b).toNat))
 |.xor=>some (.i k (k.wrap (BitVec.ofInt k.bits a ^^^ BitVec.ofInt k.bits b).toNat))
 |.andNot=>some (.i k (k.wrap (BitVec.ofInt k.bits a &&& ~~~ BitVec.ofInt k.bits b).toNat))
 |.eql=>some (.b (a==b))
 |.neq=>some (.b (a !=b))
 |.lss=>some (.b (decide (a<b)))
 |.leq=>some (.b (decide (a<=b)))
 |.gtr=>some (.b (decide (a>b)))
 |.geq=>some (.b (decide (a>=b)))
 |_=>none
def kD(c:BinOp)(k:IntKind)(a b:Int):W3:=
 if b<0 then none else
 match c with
 |.shl=>some (.i k (k.wrap (a*2^(min b.toNat k.bits))))
 |.shr=>some (.i k (a.fdiv (2^(min b.toNat k.bits))))
 |_=>none
def yE(c:BinOp)(a b:Q0):W3:=
 match c with
 |.add=>if((a.length+b.length:Nat):Int)<=IntKind.i64.max then some (.s (a++b))else none
 |.eql=>some (.b (a==b))
 |.neq=>some (.b (!(a==b)))
 |.lss=>some (.b (Op.bytesLess a b))
 |.leq=>some (.b (Op.bytesLess a b ||a==b))
 |.gtr=>some (.b (!(Op.bytesLess a b ||a==b)))
 |.geq=>some (.b (!(Op.bytesLess a b)))
 |_=>none
def oD:Q2->List GV->List GV->Option Bool
 |[],[],[]=>some true
 |0::c,.i k a::l,.i d b::m=>if k=d then(oD c l m).map ((a==b)&&·)else none
 |1::c,.s a::l,.s b::m=>(oD c l m).map ((a==b)&&·)
 |2::c,.b a::l,.b b::m=>(oD c l m).map ((a==b)&&·)
 |_,_,_=>none
def iJ(op:BinOp):GV->GV->Option GV
 |.i k a,.i c b=>match op with
  |.shl=>kD .shl k a b
  |.shr=>kD .shr k a b
  |op=>if k=c then bV op k a b else none
 |.s a,.s b=>yE op a b
 |_,_=>none
def Ul(c:BinOp):GV->GV->Option GV
 |.b a,.b b=>match c with
  |.eql=>some (.b (a==b))
  |.neq=>some (.b (!(a==b)))
  |_=>none
 |_,_=>none
def Md(d:BinOp)(c:Q2):GV->GV->Option GV
 |.g a,.g b=>match d with
  |.eql=>(oD c a b).map .b
  |.neq=>(oD c a b).map λr=>.b (!r)
  |_=>none
 |_,_=>none
def X8(b:UnOp):GV->Option GV
 |.b a=>match b with
  |.not=>some (.b (!a))
  |_=>none
 |.i k n=>match b with
  |.neg=>some (.i k (k.wrap (0-n)))
  |.xor=>bV .xor k (if k.signed then -1 else k.max) n
  |_=>none
 |_=>none
def ou:Q1->Option Q0
 |[]=>some []
 |.i .u8 n::rest=>if 0<=n/\n<256 then(ou rest).map (UInt8.ofNat n.toNat::·)else none
 |_::_=>none
def dh(s:Q0):Q1:=s.map λb=>.i .u8 b.toNat
inductive Nd where
 |arg
 |ci (k:IntKind) (n:Int)
 |cb (x:Bool)
 |cs (x:Q0)
 |bin (op:BinOp) (a b:Nat)
 |F7 (op:BinOp) (a b:Nat)
 |F8 (op:BinOp) (ks:Q2) (a b:Nat)
 |un (op:UnOp) (a:Nat)
 |mm (big:Bool) (a b:Nat)
 |conv (k:IntKind) (a:Nat)
 |len (a:Nat)
 |slen (a:Nat)
 |H6 (a i:Nat)
 |H7 (a lo hi:Nat)
 |EH (size a lo hi:Nat)
 |idx (a i:Nat)
 |at(size a i:Nat)
 |cell (off a:Nat)
 |mk (l:Q2)
 |ml (l:Q2)
 |app (size bytes a b:Nat)
 |upd (size off a i:Nat) (vs:Q2)
 |rep (size bytes z l c:Nat)
 |bytes (a:Nat)
 |str (a:Nat)
 |HY (a:Nat)
 |same (a b:Nat)
 |Bd (a j:Nat)
 |call (f:Nat) (l:Q2) (j:Nat)
 |He (z m k:Nat)
 |Hf (m k:Nat)
 |Dc (m k v:Nat)
 deriving Inhabited
def qI:GV->GV->Bool
 |.i k a,.i c b=>Nat.beq (IntKind.casesOn k 0 1 2 3 4 5 6 7) (IntKind.casesOn c 0 1 2 3 4 5 6 7)&&a==b
 |.s a,.s b=>a==b
 |_,_=>false
def fZ(k:GV):Q1->Option GV
 |[]=>none
 |.g [a,v]::l=>if qI k a=true then some v else fZ k l
 |_::l=>fZ k l
def ku(k v:GV):Q1->List GV
 |[]=>[.g [k,v]]
 |.g [a,u]::l=>if qI k a=true then .g [k,v]::l else .g [a,u]::ku k v l
 |x::l=>x::ku k v l
def valsOf(val:Wa):Q2->Option Q1
 |[]=>some []
 |n::l=>match val n,valsOf val l with
  |some g,some r=>some (g::r)
  |_,_=>none
def GV.int:GV->Option Int
 |.i _ n=>some n
 |_=>none
def putCells(cs:Q1)(off:Nat)(vs:Q1):Wo:=
 if off+vs.length<=cs.length then some (cs.take off++vs++cs.drop (off+vs.length))else none
def GV.put(x:GV)(off:Nat)(vs:Q1):W3:=
 match x with
 |.g a=>(putCells a off vs).map .g
 |_=>match off,vs with
  |0,[v]=>some v
  |_,_=>none
def Nd.den(I:Nat->List GV->Option Q1)(val:Wa):Nd->Option GV
 |.arg=>none
 |.ci k n=>some (.i k n)
 |.cb x=>some (.b x)
 |.cs x=>some (.s x)
 |.bin e a b=>match val a,val b with
  |some x,some y=>iJ e x y
  |_,_=>none
 |.F7 e a b=>match val a,val b with
  |some x,some y=>Ul e x y
  |_,_=>none
 |.F8 e q a b=>match val a,val b with
  |some x,some y=>Md e q x y
  |_,_=>none
 |.un e a=>match val a with
  |some x=>X8 e x
  |none=>none
 |.mm p a b=>match val a,val b with
  |some (.i k x),some (.i s y)=>if k=s then some (.i k (if p then(if x<y then y else x)else(if y<x then y else x)))else none
  |_,_=>none
 |.conv k a=>match val a with
  |some (.i _ n)=>some (.i k (k.wrap n))
  |_=>none
 |.len a=>match val a with
  |some (.l xs)=>some (.i .i64 xs.length)
  |_=>none
 |.slen a=>match val a with
  |some (.s x)=>some (.i .i64 x.length)
  |_=>none
 |.H6 a i=>match val a,val i with
  |some (.s x),some (.i _ k)=>if 0<=k then match x[k.toNat]? with
   |some c=>some (.i .u8 c.toNat)
   |none=>none
   else none
  |_,_=>none
 |.H7 a lo hi=>match val a,val lo,val hi with
  |some (.s x),some (.i _ l),some (.i _ h)=>if 0<=l/\l<=h/\h<=x.length then some (.s ((x.take h.toNat).drop l.toNat))else none
  |_,_,_=>none
 |.EH size a lo hi=>match val a,val lo,val hi with
  |some (.l xs),some (.i _ l),some (.i _ h)=>if 0<=l/\l<=h/\h<=xs.length/\(xs.all λx=>Nat.beq x.cells.length size)=true then some (.l ((xs.take h.toNat).drop l.toNat))else none
  |_,_,_=>none
 |.idx a i=>match val a,val i with
  |some (.l xs),some (.i _ k)=>if 0<=k/\k<xs.length then some (.i .i64 k)else none
  |_,_=>none
 |.at size a i=>match val a,val i with
  |some (.l xs),some (.i _ k)=>if 0<=k then match xs[k.toNat]? with
   |some x=>if x.cells.length=size then some x else none
   |none=>none
   else none
  |_,_=>none
 |.cell off a=>match val a with
  |some g=>match g.cells[off]? with
   |some c=>if c.scalar then some c else none
   |none=>none
  |none=>none
 |.mk l=>match valsOf val l with
  |some gs=>if gs.all GV.scalar then some (.g gs)else none
  |none=>none
 |.ml l=>(valsOf val l).map .l
 |.app size t a b=>match val a,val b with
  |some (.l xs),some (.l o)=>if o.all (GV.fP size)=true/\2*(xs.length+o.length)*t<=2^48/\xs.length+o.length<=2^48 then some (.l (xs++o))else none
  |_,_=>none
 |.upd size off a i vs=>match val a,val i,valsOf val vs with
  |some (.l xs),some (.i _ k),some gs=>
   if 0<=k/\gs.all GV.scalar=true then match xs[k.toNat]? with
   |some x=>if x.cells.length=size then(x.put off gs).map λy=>.l (xs.set k.toNat y)else none
   |none=>none
   else none
  |_,_,_=>none
 |.rep size w z l c=>match val z,val l,val c with
  |some x,some (.i _ n),some (.i _ m)=>if 0<=n/\n<=m/\w*m<=2^48/\m<=2^60/\x.fP size=true then some (.l (List.replicate n.toNat x))else none
  |_,_,_=>none
 |.bytes a=>match val a with
  |some (.s x)=>some (.l (dh x))
  |_=>none
 |.str a=>match val a with
  |some (.l xs)=>if xs.length<=2^48 then(ou xs).map .s else none
  |_=>none
 |.HY a=>match val a with
  |some (.s x)=>some (.s x)
  |_=>none
 |.same a b=>match val a,val b with
  |some (.l xs),some (.l o)=>if o.length=xs.length then some (.l o)else none
  |_,_=>none
 |.Bd a j=>match val a with
  |some (.i _ m)=>some (.b (decide (m=(j:Int))))
  |_=>none
 |.call f l j=>match valsOf val l with
  |some gs=>match I f gs with
   |some r=>r[j]?
   |none=>none
  |none=>none
 |.He z m k=>match val z,val m,val k with
  |some d,some (.l xs),some g=>some ((fZ g xs).getD d)
  |_,_,_=>none
 |.Hf m k=>match val m,val k with
  |some (.l xs),some g=>some (.b (fZ g xs).isSome)
  |_,_=>none
 |.Dc m k v=>match val m,val k,val v with
  |some (.l xs),some g,some u=>some (.l (ku g u xs))
  |_,_,_=>none
def xq(o:BinOp):Nat:=BinOp.casesOn o 0 1 2 3 4 5 6 7 8 9 10 11 12 13 14 15 16
def ays{o o':BinOp}(h:Nat.beq (xq o) (xq o')=true):o=o':=by cases o<;>cases o'<;>first|rfl|(simp[xq]at h)
def KT(o:UnOp):Nat:=UnOp.casesOn o 0 1 2 3
def aFg{o o':UnOp}(h:Nat.beq (KT o) (KT o')=true):o=o':=by cases o<;>cases o'<;>first|rfl|(simp[KT]at h)
def kc(k:IntKind):Nat:=IntKind.casesOn k 0 1 2 3 4 5 6 7
def V5{o o':IntKind}(h:Nat.beq (kc o) (kc o')=true):o=o':=by cases o<;>cases o'<;>first|rfl|(simp[kc]at h)
def y8:Q2->List Nat->Bool
 |[],[]=>true
 |a::l,b::m=>Nat.beq a b&&y8 l m
 |_,_=>false
def abo:∀{l m:Q2},y8 l m=true->l=m
 |[],[],_=>rfl
 |a::l,b::m,h=>by simp only[y8,aK]at h;rw[bK h.1,abo h.2]
 |[],_::_,h=>by simp[y8]at h
 |_::_,[],h=>by simp[y8]at h
def Ce:Q0->List UInt8->Bool
 |[],[]=>true
 |a::l,b::m=>Nat.beq a.toNat b.toNat&&Ce l m
 |_,_=>false
def Zb:∀{l m:Q0},Ce l m=true->l=m
 |[],[],_=>rfl
 |a::l,b::m,h=>by simp only[Ce,aK]at h;rw[YK.1 (bK h.1),Zb h.2]
 |[],_::_,h=>by simp[Ce]at h
 |_::_,[],h=>by simp[Ce]at h
def JA(a b:Int):Bool:=match a,b with
 |.ofNat m,.ofNat n=>Nat.beq m n
 |.negSucc m,.negSucc n=>Nat.beq m n
 |_,_=>false
def ah4{a b:Int}(h:JA a b=true):a=b:=by
 unfold JA at h;split at h
 ·rw[bK h]
 ·rw[bK h]
 ·cases h
def Nd.eq(x y:Nd):Bool:=
 match x with
 |.arg=>false
 |.ci k n=>match y with|.ci t J=>Nat.beq (kc k) (kc t)&&JA n J|_=>false
 |.cb b=>match y with|.cb e=>(bif b then e else !e)|_=>false
 |.cs s=>match y with|.cs q=>Ce s q|_=>false
 |.bin u a b=>match y with|.bin p d e=>Nat.beq a d&&Nat.beq b e&&Nat.beq (xq u) (xq p)|_=>false
 |.F7 u a b=>match y with|.F7 p d e=>Nat.beq a d&&Nat.beq b e&&Nat.beq (xq u) (xq p)|_=>false
 |.F8 u L a b=>match y with|.F8 p D d e=>Nat.beq a d&&Nat.beq b e&&Nat.beq (xq u) (xq p)&&y8 L D|_=>false
 |.un u a=>match y with|.un p d=>Nat.beq a d&&Nat.beq (KT u) (KT p)|_=>false
 |.mm g a b=>match y with|.mm I d e=>Nat.beq a d&&Nat.beq b e&&(bif g then I else !I)|_=>false
 |.conv k a=>match y with|.conv t d=>Nat.beq a d&&Nat.beq (kc k) (kc t)|_=>false
 |.len a=>match y with|.len d=>Nat.beq a d|_=>false
 |.slen a=>match y with|.slen d=>Nat.beq a d|_=>false
 |.H6 a i=>match y with|.H6 d w=>Nat.beq a d&&Nat.beq i w|_=>false
 |.H7 a l h=>match y with|.H7 d r E=>Nat.beq a d&&Nat.beq l r&&Nat.beq h E|_=>false
 |.EH s a l h=>match y with|.EH q d r E=>Nat.beq s q&&Nat.beq a d&&Nat.beq l r&&Nat.beq h E|_=>false
 |.idx a i=>match y with|.idx d w=>Nat.beq a d&&Nat.beq i w|_=>false
 |.at s a i=>match y with|.at q d w=>Nat.beq s q&&Nat.beq a d&&Nat.beq i w|_=>false
 |.cell o a=>match y with|.cell F d=>Nat.beq o F&&Nat.beq a d|_=>false
 |.mk l=>match y with|.mk r=>y8 l r|_=>false
 |.ml l=>match y with|.ml r=>y8 l r|_=>false
 |.app z s a b=>match y with|.app A q d e=>Nat.beq z A&&Nat.beq s q&&Nat.beq a d&&Nat.beq b e|_=>false
 |.upd s o a i M=>match y with|.upd q F d w G=>Nat.beq s q&&Nat.beq o F&&Nat.beq a d&&Nat.beq i w&&y8 M G|_=>false
 |.rep s b z l c=>match y with|.rep q e A r N=>Nat.beq s q&&Nat.beq b e&&Nat.beq z A&&Nat.beq l r&&Nat.beq c N|_=>false
 |.bytes a=>match y with|.bytes d=>Nat.beq a d|_=>false
 |.str a=>match y with|.str d=>Nat.beq a d|_=>false
 |.HY a=>match y with|.HY d=>Nat.beq a d|_=>false
 |.same a b=>match y with|.same d e=>Nat.beq a d&&Nat.beq b e|_=>false
 |.Bd a j=>match y with|.Bd d H=>Nat.beq a d&&Nat.beq j H|_=>false
 |.call f l j=>match y with|.call O r H=>Nat.beq f O&&Nat.beq j H&&y8 l r|_=>false
 |.He z m k=>match y with|.He A B t=>Nat.beq z A&&Nat.beq m B&&Nat.beq k t|_=>false
 |.Hf m k=>match y with|.Hf B t=>Nat.beq m B&&Nat.beq k t|_=>false
 |.Dc m k v=>match y with|.Dc B t P=>Nat.beq m B&&Nat.beq k t&&Nat.beq v P|_=>false
def WM{a b:Nat}:Nat.beq a b=true↔a=b:=⟨Nat.eq_of_beq_eq_true,λh=>by rw[h];exact Nat.beq_refl b⟩
def ax6{l m:Q2}:y8 l m=true↔l=m:=⟨abo,λh=>by subst h;induction l with|nil=>rfl|cons a l b=>simp[y8,b]⟩
def afl{l m:Q0}:Ce l m=true↔l=m:=⟨Zb,λh=>by subst h;induction l with|nil=>rfl|cons a l b=>simp[Ce,b]⟩
def ah5{a b:Int}:JA a b=true↔a=b:=⟨ah4,λh=>by subst h;cases a<;>simp[JA]⟩
def ajy{o o':BinOp}:xq o=xq o'↔o=o':=⟨λh=>ays (WM.2 h),λh=>by rw[h]⟩
def aFf{o o':UnOp}:KT o=KT o'↔o=o':=⟨λh=>aFg (WM.2 h),λh=>by rw[h]⟩
def aws{o o':IntKind}:kc o=kc o'↔o=o':=⟨λh=>V5 (WM.2 h),λh=>by rw[h]⟩
def Uk{a b:Bool}:(bif a then b else !b)=true↔a=b:=by cases a<;>cases b<;>simp
def Nd.eq_of{x y:Nd}(h:x.eq y=true):x=y/\x≠.arg:=by
 cases x<;>simp only[Nd.eq]at h
 case arg=>cases h
 all_goals
  split at h
  ·simp only[aK,WM,ax6,afl,ah5,ajy,aFf,aws,Uk]at h;simp_all
  ·cases h
class gY where
 nodes:List Nd
 dec:Wg
 ka:Nat:=0
def Qj(x:Nd):List Nd->Nat->Option Nat
 |[],_=>none
 |y::l,k=>bif x.eq y then some k else Qj x l (k+1)
def fQ[gY](x:Nd):QR:=Qj x gY.nodes 0
def Qc(n:Nat):Wg->Option Bool
 |[]=>none
 |p::l=>bif Nat.beq n p.1 then some p.2 else Qc n l
def ZI[gY](n:Nat):YY:=Qc n gY.dec
def agV{x:Nd}:∀{l:List Nd}{k n:Nat},Qj x l k=some n->k<=n/\l[n-k]? =some x/\x≠.arg
 |[],_,_,h=>by simp[Qj]at h
 |y::l,k,n,h=>by
  simp only[Qj]at h;cases a:x.eq y with
  |true=>rw[a]at h;simp only[cond_true,aY]at h;subst h;obtain⟨rfl,b⟩:=Nd.eq_of a;exact⟨Nat.le_refl _,by simp,b⟩
  |false=>
   rw[a]at h;simp only[cond_false]at h;obtain⟨d,b,c⟩:=agV h;refine⟨by omega,?_,c⟩;have:n-k=(n-(k+1))+1:=by omega
   rw[this,wE];exact b
def atE[gY]{x:Nd}{n:Nat}(h:fQ x=some n):gY.nodes[n]? =some x/\x≠.arg:=by obtain⟨_,a,b⟩:=agV h;exact⟨by simpa using a,b⟩
def Qd{n:Nat}{b:Bool}:∀{l:Wg},Qc n l=some b->(n,b)∈l
 |[],h=>by simp[Qc]at h
 |p::l,h=>by
  simp only[Qc]at h;cases a:Nat.beq n p.1 with
  |true=>
   rw[a]at h;simp only[cond_true,aY]at h;have:p=(n,b):=by rw[<-h,bK a]
   rw[this];simp
  |false=>rw[a]at h;simp only[cond_false]at h;exact yK _ (Qd h)
inductive AV where
 |b (x:Bool)
 |i (k:IntKind) (n:Int)
 |s (x:Q0)
 |jU
 |p (id off:Nat)
 |gK
 |sl (id off len:Nat) (cap:QR)
 |qK
 |mp (id:Nat)
 |zW
 |fn (f:FuncId) (first caps:List AV)
 |uP
 |jq (t:TypeId) (v:AV)
 |agg (l:List AV)
 |fB (l:List AV)
 |z (k:IntKind) (lo hi:Int)
 |ro (l:List AV)
 |rp (a:AV) (off:Nat)
 |nd (n:Nat)
 |rx (n off:Nat)
 |sv (id n:Nat)
 |pv (id n off:Nat)
 |pd (id n:Nat)
 deriving Inhabited
abbrev XX:=List (AV×AV)
abbrev Wm:=List (Nat×AV)
abbrev QP:=Operand->Option AV
abbrev Q4:=Option AV
abbrev Q3:=List AV
abbrev Qt:=List (Nat×Q3)
structure Place where
 bl:Nat
 ba:Nat
 sz:Nat
 es:Nat
structure Env where
 pl:Nat->Option Place
 ro:Nat->Option Obj
 gh:Nat->Bool
instance:CoeFun Env (λ_=>Nat->Option Place):=⟨Env.pl⟩
class aH extends gY where
 tabs:Qt
 I:Nat->List GV->Option Q1
 val:Nat->Option GV
 sH:∀(n:Nat) nd,nodes[n]? =some nd->nd≠.arg->∃g,val n=some g/\nd.den I val=some g
 CO:∀(n:Nat)(b:Bool),(n,b)∈dec->val n=some (.b b)
def dJ(xs:Q6):Q6:=xs.flatMap λx=>x.cells.toList
def Gi(cs:QQ)(off:Nat)(l:Q6):Prop:=∀(k:Nat) x,l[k]? =some x->cs[off+k]? =some x
mutual
def GR(ro:Qf):GV->Value->Prop
 |.b x,v=>v=.bool x
 |.i k n,v=>v=.int k n
 |.s x,v=>v=.string ⟨⟨x⟩⟩
 |.g cs,v=>∃vs,v=.agg ⟨vs⟩/\aS ro cs vs
 |.l xs,v=>(xs=[]/\∃p,v=.slice p 0 0)\/∃bl off c a sz,v=.slice (some ⟨bl,off,none⟩) xs.length c/\xs.length<=c/\aS ro xs a/\(∀x∈a,x.cells.size=sz)/\
   (xs≠[]->∃cs elem b,ro bl=some (.cells cs elem b)/\off+(dJ a).length<=cs.size/\Gi cs off (dJ a))
def aS(ro:Qf):Q1->List Value->Prop
 |[],vs=>vs=[]
 |a::l,vs=>∃x xs,vs=x::xs/\GR ro a x/\aS ro l xs
end
variable[aH]
mutual
def VR(F:Env):AV->Value->Prop
 |.b x,v=>v=.bool x
 |.i k n,v=>v=.int k n
 |.s x,v=>v=.string ⟨⟨x⟩⟩
 |.jU,v=>v=.pointer none
 |.p id off,v=>∃q,F id=some q/\v=.pointer (some ⟨q.bl,q.ba+off,none⟩)
 |.gK,v=>v=.slice none 0 0
 |.sl id off len cap,v=>∃q,F id=some q/\len<=cap.getD ((q.sz-off)/q.es)/\v=.slice (some ⟨q.bl,q.ba+off,none⟩) len (cap.getD ((q.sz-off)/q.es))
 |.qK,v=>v=.map none
 |.mp id,v=>∃q,F id=some q/\v=.map (some q.bl)
 |.zW,v=>v=.nilFunc
 |.fn f fi b,v=>∃e vs,v=.func (.func f) ⟨e⟩ ⟨vs⟩/\aC F fi e/\aC F b vs
 |.uP,v=>v=.nilIface
 |.jq t a,v=>∃x,v=.iface t x/\VR F a x
 |.agg l,v=>∃vs,v=.agg ⟨vs⟩/\aC F l vs
 |.fB l,v=>∃vs,v=.tuple ⟨vs⟩/\aC F l vs
 |.z k lo hi,v=>∃n:Int,lo<=n/\n<=hi/\v=.int k n
 |.ro l,v=>(l=[]/\∃p,v=.slice p 0 0)\/∃bl off c xs sz,v=.slice (some ⟨bl,off,none⟩) l.length c/\l.length<=c/\aC F l xs/\(∀x∈xs,x.cells.size=sz)/\
   (l≠[]->∃cs elem d,F.ro bl=some (.cells cs elem d)/\off+(dJ xs).length<=cs.size/\Gi cs off (dJ xs))
 |.rp a off,v=>∃bl base cs elem d x,F.ro bl=some (.cells cs elem d)/\VR F a x/\v=.pointer (some ⟨bl,base+off,none⟩)/\base+x.cells.size<=cs.size/\Gi cs base x.cells.toList
 |.nd n,v=>∃g,aH.val n=some g/\g.scalar=true/\GR F.ro g v
 |.rx n off,v=>∃g bl base cs elem d x,aH.val n=some g/\F.ro bl=some (.cells cs elem d)/\GR F.ro g x/\v=.pointer (some ⟨bl,base+off,none⟩)/\base+x.cells.size<=cs.size/\Gi cs base x.cells.toList
 |.sv id n,v=>∃xs,aH.val n=some (.l xs)/\((∃q,F id=some q/\xs.length<=q.sz/q.es/\v=.slice (some ⟨q.bl,q.ba,none⟩) xs.length (q.sz/q.es))\/(F.gh id=true/\xs=[]/\v=.slice none 0 0))
 |.pv id n off,v=>∃q k i,F id=some q/\aH.val n=some (.i k i)/\v=.pointer (some ⟨q.bl,q.ba+i.toNat*q.es+off,none⟩)
 |.pd id n,v=>∃xs p,aH.val n=some (.l xs)/\v=.pointer p/\(xs≠[]->∃q,F id=some q/\p=some ⟨q.bl,q.ba,none⟩)
def aC(F:Env):Q3->List Value->Prop
 |[],vs=>vs=[]
 |a::l,vs=>∃x xs,vs=x::xs/\VR F a x/\aC F l xs
end
inductive Tr(α:Type) where
 |nil
 |nd (v:Option α) (l r:Tr α)
 deriving Inhabited
def Tr.val{α:Type}(t:Tr α):Option α:=Tr.casesOn t none (λv _ _=>v)
def Tr.EF{α:Type}(t:Tr α):Tr α:=Tr.casesOn t .nil (λ_ l _=>l)
def Tr.ES{α:Type}(t:Tr α):Tr α:=Tr.casesOn t .nil (λ_ _ r=>r)
def Tr.vP{α:Type}(p:List Bool):Tr α->Option α:=List.rec (motive:=λ_=>Tr α->Option α) Tr.val (λb _ a t=>a (bif b then t.EF else t.ES)) p
def Tr.KJ{α:Type}(x:Option α)(p:List Bool):Tr α->Tr α:=List.rec (motive:=λ_=>Tr α->Tr α) (λt=>.nd x t.EF t.ES)
 (λb _ a t=>bif b then .nd t.val (a t.EF) t.ES else .nd t.val t.EF (a t.ES)) p
def Rk(f:Nat):Nat->List Bool:=Nat.rec (motive:=λ_=>Nat->List Bool) (λ_=>[]) (λ_ a n=>bif Nat.beq n 0 then[]else Nat.beq ((n-1)%2) 0::a ((n-1)/2)) f
def path(n:Nat):List Bool:=Rk (Nat.log2 n+1) n
def Tr.get{α:Type}(t:Tr α)(n:Nat):Option α:=Tr.vP (path n) t
def Tr.set{α:Type}(t:Tr α)(n:Nat)(x:Option α):Tr α:=Tr.KJ x (path n) t
inductive bI where
 |cells (c:Q3) (et:TypeId) (rw opn:Bool)
 |iter (s:Q0) (pos:Nat)
 |map (es:XX)
 |iterM (m:QR)
 |vec (n:Nat) (et:TypeId) (f:Bool)
 |smap (n:Nat) (kk:Wf) (sz:QR)
 |pmap (es:List (Q0×AV))
 deriving Inhabited
abbrev Xs:=List (Nat×bI)
abbrev WP:=List (Nat×Option bI)
structure aA where
 h:Tr bI
 next:Nat
 lock:Nat
 deriving Inhabited
abbrev We:=Option (AV×aA)
abbrev W4:=Option (Q4×aA)
def aA.get(J:aA)(id:Nat):Option bI:=J.h.get id
def aA.put(J:aA)(id:Nat)(o:bI):aA:={J with h:=J.h.set id (some o)}
def aA.kill(J:aA)(id:Nat):aA:={J with h:=J.h.set id none}
def aA.new(J:aA)(o:bI):aA:={J with h:=J.h.set J.next (some o),next:=J.next+1}
def vX{α β:Type}(f:α->Option β):List α->Option (List β)
 |[]=>some []
 |x::xs=>match f x with
  |none=>none
  |some y=>match vX f xs with
   |none=>none
   |some a=>some (y::a)
def AV.toVal:Nat->AV->Option Value
 |0,_=>none
 |n+1,a=>
  match a with
  |.b x=>some (.bool x)
  |.i k x=>some (.int k x)
  |.s x=>some (.string ⟨⟨x⟩⟩)
  |.jU=>some (.pointer none)
  |.gK=>some (.slice none 0 0)
  |.qK=>some (.map none)
  |.zW=>some .nilFunc
  |.uP=>some .nilIface
  |.jq t v=>(AV.toVal n v).map (.iface t)
  |.agg l=>(vX (AV.toVal n) l).map λvs=>.agg ⟨vs⟩
  |.fB l=>(vX (AV.toVal n) l).map λvs=>.tuple ⟨vs⟩
  |_=>none
def nH:Nat->Value->Option AV
 |0,_=>none
 |n+1,v=>
  match v with
  |.bool x=>some (.b x)
  |.int k x=>some (.i k x)
  |.string s=>some (.s s.data.toList)
  |.pointer none=>some .jU
  |.slice none 0 0=>some .gK
  |.map none=>some .qK
  |.nilFunc=>some .zW
  |.nilIface=>some .uP
  |.iface t x=>(nH n x).map (.jq t)
  |.agg cs=>(vX (nH n) cs.toList).map .agg
  |.tuple cs=>(vX (nH n) cs.toList).map .fB
  |_=>none
def rE{α:Type}(P:Program):Sem α->Option α
 |.pure a=>some a
 |.program k=>rE P (k P)
 |.mark _ k=>rE P k
 |_=>none
structure bG where
 t:Tr AV
 n:Nat
 gn:Nat
def bG.eval(a:bG):Operand->Option AV
 |.tmp t=>a.t.get t
 |.const v=>nH 4 v
 |.global g=>if g<a.gn then some (.p g 0)else none
 |.func f=>some (.fn f [] [])
def bG.put(a:bG)(dst:Option Tmp)(v:Q4):Option bG:=
 match dst with
 |none=>some a
 |some d=>if d<a.n then some {a with t:=a.t.set d v}else none
def AV.cells:AV->List AV
 |.agg l=>l
 |v=>[v]
def AV.oO:AV->Bool
 |.agg _|.fB _=>false
 |_=>true
def Ae(P:Program)(t:TypeId):Option Q3:=
 match P.info? t with
 |some i=>match i.zero with
  |some z=>(nH 4 z).map AV.cells
  |none=>none
 |none=>none
def oP(P:Program)(t:TypeId):YY:=
 match P.underlying t with
 |some (.struct _)|some (.array _ _)=>some true
 |some _=>some false
 |none=>none
def sizeT(P:Program)(t:TypeId):QR:=(P.info? t).map (·.size)
def takeN(l:Q3)(off n:Nat):Option Q3:=
 let r:=(l.drop off).take n
 if r.length=n then some r else none
def BD(l:Q3)(off:Nat)(vs:Q3):Option Q3:=
 if off+vs.length<=l.length then some (l.take off++vs++l.drop (off+vs.length))else none
def BQ(a:Nat->Option (Nat×Nat))(cells:Q3):Wm->Option Q3
 |[]=>some cells
 |(i,v)::rest=>
  match a i with
  |none=>none
  |some (off,size)=>
   if v.cells.length=size then
    match BD cells off v.cells with
    |some cs=>BQ a cs rest
    |none=>none
   else none
def Gx(a:QP):List (Nat×Operand)->Option Wm
 |[]=>some []
 |(i,x)::rest=>match a x,Gx a rest with
  |some v,some r=>some ((i,v)::r)
  |_,_=>none
def CS(a:QP):List Operand->Option Q3
 |[]=>some []
 |x::rest=>match a x,CS a rest with
  |some v,some r=>some (v::r)
  |_,_=>none
def TQ(P:Program)(t:TypeId)(cs:Q3)(off:Nat):Q4:=
 match oP P t with
 |some true=>match sizeT P t with
  |some n=>(takeN cs off n).map .agg
  |none=>none
 |some false=>cs[off]?
 |none=>none
def RN(P:Program):List Field->Option WD
 |[]=>some []
 |f::fs=>match sizeT P f.type,RN P fs with
  |some n,some r=>some ((f.offset,n)::r)
  |_,_=>none
def TD(P:Program)(t:TypeId)(a:Wm):Q4:=
 match Ae P t,P.underlying t with
 |some zero,some (.struct b)=>
  match RN P b.toList with
  |some c=>(BQ (λi=>c[i]?) zero a).map .agg
  |none=>none
 |some zero,some (.array _ e)=>
  match sizeT P e with
  |some d=>(BQ (λi=>some (i*d,d)) zero a).map .agg
  |none=>none
 |_,_=>none
def jG(n:Nat)(zero:Q3):Q3:=(List.replicate n zero).flatten
def xQ(P:Program)(t:TypeId)(J:aA)(a:AV):Q4:=
 match a with
 |.p id b=>
  match J.get id with
  |some (.cells c _ _ _)=>
   match oP P t with
   |some true=>match sizeT P t with
    |some n=>(takeN c b n).map .agg
    |none=>none
   |some false=>c[b]?
   |none=>none
  |_=>none
 |.rp e b=>
  match oP P t with
  |some true=>match sizeT P t with
   |some n=>(takeN e.cells b n).map .agg
   |none=>none
  |some false=>e.cells[b]?
  |none=>none
 |_=>none
def FX(P:Program)(t:TypeId)(J:aA)(a v:AV):Option aA:=
 match a with
 |.p id b=>
  match J.get id with
  |some (.cells c e true d)=>
   if J.lock<=id/\sizeT P t=some v.cells.length/\v.cells.all AV.oO then
    (BD c b v.cells).map λf=>J.put id (.cells f e true d)
   else none
  |_=>none
 |_=>none
def xP:AV->Option Int
 |.i _ n=>some n
 |_=>none
def BR(len:Nat)(a:Nat->Bool):Q4->Option Nat
 |none=>some len
 |some v=>match xP v with
  |some h=>if 0<=h/\a h.toNat=true then some h.toNat else none
  |none=>none
def LW(h:Nat):Q4->Option Nat
 |none=>some 0
 |some v=>match xP v with
  |some l=>if 0<=l/\l<=h then some l.toNat else none
  |none=>none
def yR(len:Nat)(a:Nat->Bool)(low b:Q4):Option (Nat×Nat):=
 match BR len a b with
 |none=>none
 |some h=>match LW h low with
  |none=>none
  |some l=>some (l,h)
def Kr(a:QP):Option Operand->Option Q4
 |none=>some none
 |some x=>(a x).map some
end
noncomputable section
variable[gY]
def bytesOf:Q3->Option Q0
 |[]=>some []
 |.i .u8 n::rest=>if 0<=n/\n<256 then(bytesOf rest).map (UInt8.ofNat n.toNat::·)else none
 |_::_=>none
def xX(s:Q0):Q3:=s.map λb=>.i .u8 b.toNat
def yC(a:AV):Wz:=a.toVal 4
def xZ(P:Program)(t:TypeId):Option (TypeId×Nat×Nat×Q3):=
 match P.underlying t with
 |some (.slice e)=>match P.info? e,Ae P e with
  |some i,some z=>if e≠0/\z.length=i.size then some (e,i.size,i.bytes,z)else none
  |_,_=>none
 |_=>none
def Aa(J:aA)(size:Nat):AV->Option (Nat×Q3)
 |.gK=>some (0,[])
 |.sl id off len _=>match J.get id with
  |some (.cells c _ _ _)=>(takeN c off (len*size)).map λr=>(len,r)
  |_=>none
 |.s x=>if size=1 then some (x.length,xX x)else none
 |.ro l=>if l.all (λa=>a.cells.length==size)=true then some (l.length,l.flatMap AV.cells)else none
 |_=>none
def GX(P:Program)(t:TypeId):Bool:=
 match P.underlying t with
 |some (.slice _)|some .string=>true
 |_=>false
def sliceLen:AV->Nat
 |.sl _ _ n _=>n
 |_=>0
def qQ(e size bytes:Nat)(s:AV)(n:Nat)(new:Q3)(J:aA):We:=
 if size=0\/new.all AV.oO=false\/¬(2*(sliceLen s+n)*bytes<=2^48/\sliceLen s+n<=2^48)then none else
 match s with
 |.gK=>if n=0 then some (.gK,J)else some (.sl J.next 0 n none,J.new (.cells new e true true))
 |.sl id a len (some d)=>
  if len+n<=d then
   if n=0 then some (s,J)else
   match J.get id with
   |some (.cells c f true g)=>
    if J.lock<=id then
     (BD c (a+len*size) new).map λh=>(.sl id a (len+n) (some d),J.put id (.cells h f true g))
    else none
   |_=>none
  else
   match J.get id with
   |some (.cells c _ _ _)=>(takeN c a (len*size)).map λb=>(.sl J.next 0 (len+n) none,J.new (.cells (b++new) e true true))
   |_=>none
 |.sl id a len none=>
  if n=0 then some (s,J)
  else if J.lock<=id then
   match J.get id with
   |some (.cells c f true true)=>if f=e then(takeN c a (len*size)).map λb=>(.sl J.next 0 (len+n) none,(J.kill id).new (.cells (b++new) e true true))else none
   |_=>none
  else none
 |.ro l=>if n=0 then some (.ro l,J)else none
 |_=>none
def YM(P:Program)(a:Wr)(s x:AV)(J:aA):We:=
 match a.toList with
 |[t,c]=>
  match xZ P t,GX P c with
  |some (e,b,bytes,_),true=>
   match Aa J b x with
   |some (n,new)=>qQ e b bytes s n new J
   |none=>none
  |_,_=>none
 |_=>none
def TJ(P:Program)(J:aA)(t:TypeId)(x:AV):Q4:=
 match P.underlying t,x with
 |some .string,.s s=>some (.i .i64 s.length)
 |some (.slice _),.gK=>some (.i .i64 0)
 |some (.slice _),.sl _ _ n _=>some (.i .i64 n)
 |some (.slice _),.ro l=>some (.i .i64 l.length)
 |some (.map _ _),.qK=>some (.i .i64 0)
 |some (.map _ _),.mp id=>match J.get id with
  |some (.map es)=>some (.i .i64 es.length)
  |_=>none
 |some (.array n _),_=>some (.i .i64 n)
 |_,_=>none
def TL(P:Program)(t:TypeId)(len cap:AV)(J:aA):We:=
 match xZ P t,xP len,xP cap with
 |some (e,a,bytes,z),some l,some c=>
  if 0<=l/\l<=c/\bytes*c<=2^48/\c<=2^60 then
   some (.sl J.next 0 l.toNat (some c.toNat),J.new (.cells (if a=0 then[]else jG c.toNat z) e true false))
  else none
 |_,_,_=>none
def TS(size:Nat)(es:Q3)(l h:Nat):Q4:=
 if h=l then some (.ro [])else
 match es[0]? with
 |some a=>if a.cells.length=size then some (.ro ((es.take h).drop l))else none
 |none=>none
def BX(P:Program)(t:TypeId)(J:aA)(x:AV)(lo hi:Q4):Q4:=
 match P.underlying t,x with
 |some .string,.s s=>(yR s.length (λh=>Nat.ble h s.length) lo hi).map λ(l,h)=>.s ((s.take h).drop l)
 |some (.slice e),.sl id b len d=>
  match sizeT P e,d with
  |some a,some c=>
   (yR len (λh=>Nat.ble h c) lo hi).bind λ(l,h)=>
    if c=l then some (.sl id b (h-l) (some 0))else some (.sl id (b+l*a) (h-l) (some (c-l)))
  |some a,none=>
   match J.get id with
   |some (.cells _ f _ true)=>if f=e then
     (yR len (λh=>Nat.ble h len) lo hi).bind λ(l,h)=>
      if l<len then some (.sl id (b+l*a) (h-l) none)else if l=0 then some (.sl id b (h-l) none)else if h=l then some (.ro [])else none
    else none
   |_=>none
  |none,_=>none
 |some (.slice e),.gK=>match sizeT P e with
  |some _=>(yR 0 (λh=>Nat.ble h 0) lo hi).map λ_=>.gK
  |none=>none
 |some (.slice e),.ro es=>match sizeT P e with
  |some a=>(yR es.length (λh=>Nat.ble h es.length) lo hi).bind λ(l,h)=>TS a es l h
  |none=>none
 |some (.array n e),.p id b=>match sizeT P e with
  |some a=>(yR n (λh=>Nat.ble h n) lo hi).map λ(l,h)=>
    if n=l then .sl id b (h-l) (some 0)else .sl id (b+l*a) (h-l) (some (n-l))
  |none=>none
 |_,_=>none
def TI(P:Program)(t:TypeId)(x:AV)(f:Nat):Q4:=
 match P.underlying t,x with
 |some (.struct b),.p id c=>
  match b[f]? with
  |some d=>match sizeT P d.type with
   |some n=>if n=0 then none else some (.p id (c+d.offset))
   |none=>none
  |none=>none
 |some (.struct b),.rp a c=>
  match b[f]? with
  |some d=>match sizeT P d.type with
   |some n=>if n=0 then none else some (.rp a (c+d.offset))
   |none=>none
  |none=>none
 |_,_=>none
def TF(P:Program)(t:TypeId)(x:AV)(f:Nat):Q4:=
 match P.underlying t,x with
 |some (.struct a),.agg c=>
  match a[f]? with
  |some b=>TQ P b.type c b.offset
  |none=>none
 |_,_=>none
def zH(P:Program)(t:TypeId)(x d:AV):Q4:=
 match P.underlying t,x,xP d with
 |some (.slice e),.sl id c len _,some k=>
  match sizeT P e with
  |some b=>if 0<=k/\k<len then some (.p id (c+k.toNat*b))else none
  |none=>none
 |some (.array len e),.p id c,some k=>
  match sizeT P e with
  |some b=>if 0<=k/\k<len then some (.p id (c+k.toNat*b))else none
  |none=>none
 |some (.slice e),.ro l,some k=>
  match sizeT P e with
  |some b=>if 0<=k then match l[k.toNat]? with
   |some a=>if a.cells.length=b then some (.rp a 0)else none
   |none=>none
   else none
  |none=>none
 |some (.array len e),.rp a c,some k=>
  match sizeT P e with
  |some b=>if 0<=k/\k<len then some (.rp a (c+k.toNat*b))else none
  |none=>none
 |_,_,_=>none
def FW(P:Program)(t:TypeId)(x b:AV):Q4:=
 match P.underlying t,x,xP b with
 |some .string,.s s,some k=>
  if 0<=k then match s[k.toNat]? with
   |some c=>some (.i .u8 c.toNat)
   |none=>none
  else none
 |some (.array len e),.agg d,some k=>
  match sizeT P e with
  |some a=>if 0<=k/\k<len then TQ P e d (k.toNat*a)else none
  |none=>none
 |_,_,_=>none
def zG(P:Program)(src dst:TypeId)(x:AV)(J:aA):We:=
 match P.underlying src,P.underlying dst,x with
 |some _,some (.int k),.i _ n=>some (.i k (k.wrap n),J)
 |some .string,some .string,.s s=>some (.s s,J)
 |some .string,some (.slice e),.s s=>
  match P.underlying e with
  |some (.int .u8)=>if e≠0/\sizeT P e=some 1 then some (.sl J.next 0 s.length none,J.new (.cells (xX s) e true true))else none
  |_=>none
 |some (.slice e),some .string,.gK=>
  match P.underlying e with
  |some (.int .u8)=>some (.s [],J)
  |_=>none
 |some (.slice e),some .string,.sl id a len _=>
  match P.underlying e,J.get id with
  |some (.int .u8),some (.cells c _ _ _)=>match takeN c a len with
   |some r=>(bytesOf r).map λb=>(.s b,J)
   |none=>none
  |_,_=>none
 |some (.slice e),some .string,.ro l=>
  match P.underlying e with
  |some (.int .u8)=>(bytesOf l).map λb=>(.s b,J)
  |_=>none
 |some (.pointer t),some .unsafePointer,.p id a=>
  match J.get id,sizeT P t with
  |some (.cells c d _ false),some n=>if d≠0/\a<c.length/\n≠0 then some (.p id a,J)else none
  |_,_=>none
 |some .unsafePointer,some (.pointer u),.p id a=>
  match J.get id,sizeT P u with
  |some (.cells c d _ false),some _=>if d≠0/\liesAt P P.depth d (c.length/P.cellsOf d) a u 1=true then some (.p id a,J)else none
  |_,_=>none
 |_,_,_=>none
def UR(e:BinOp)(a b c d:Int):Q4:=
 match e with
 |.lss=>if b<c then some (.b true)else if d<=a then some (.b false)else none
 |.leq=>if b<=c then some (.b true)else if d<a then some (.b false)else none
 |.gtr=>if d<a then some (.b true)else if b<=c then some (.b false)else none
 |.geq=>if d<=a then some (.b true)else if b<c then some (.b false)else none
 |.eql=>if b<c\/d<a then some (.b false)else none
 |.neq=>if b<c\/d<a then some (.b true)else none
 |_=>none
def vG(P:Program)(g:BinOp)(t:TypeId)(x y:Operand)(a b:AV):Q4:=
 match g,a,b with
 |.eql,.p id d,.p f c=>match P.underlying t with
  |some (.pointer e)=>match sizeT P e with
   |some n=>if id=f/\n≠0 then some (.b (d==c))else none
   |none=>none
  |_=>none
 |.neq,.p id d,.p f c=>match P.underlying t with
  |some (.pointer e)=>match sizeT P e with
   |some n=>if id=f/\n≠0 then some (.b (!(d==c)))else none
   |none=>none
  |_=>none
 |.eql,.p _ _,.jU|.eql,.jU,.p _ _=>match P.underlying t with
  |some (.pointer _)=>some (.b false)
  |_=>none
 |.neq,.p _ _,.jU|.neq,.jU,.p _ _=>match P.underlying t with
  |some (.pointer _)=>some (.b true)
  |_=>none
 |.eql,.ro (_::_),.gK|.eql,.gK,.ro (_::_)=>match P.underlying t with
  |some (.slice _)=>some (.b false)
  |_=>none
 |.neq,.ro (_::_),.gK|.neq,.gK,.ro (_::_)=>match P.underlying t with
  |some (.slice _)=>some (.b true)
  |_=>none
 |.eql,.rp _ _,.jU|.eql,.jU,.rp _ _=>match P.underlying t with
  |some (.pointer _)=>some (.b false)
  |_=>none
 |.neq,.rp _ _,.jU|.neq,.jU,.rp _ _=>match P.underlying t with
  |some (.pointer _)=>some (.b true)
  |_=>none
 |.eql,.sl ..,.gK|.eql,.gK,.sl ..=>match P.underlying t with
  |some (.slice _)=>some (.b false)
  |_=>none
 |.neq,.sl ..,.gK|.neq,.gK,.sl ..=>match P.underlying t with
  |some (.slice _)=>some (.b true)
  |_=>none
 |.eql,.jq _ _,.uP|.eql,.uP,.jq _ _=>match P.underlying t with
  |some (.interface _)=>some (.b false)
  |_=>none
 |.neq,.jq _ _,.uP|.neq,.uP,.jq _ _=>match P.underlying t with
  |some (.interface _)=>some (.b true)
  |_=>none
 |.eql,.mp _,.qK|.eql,.qK,.mp _=>match P.underlying t with
  |some (.map _ _)=>some (.b false)
  |_=>none
 |.neq,.mp _,.qK|.neq,.qK,.mp _=>match P.underlying t with
  |some (.map _ _)=>some (.b true)
  |_=>none
 |_,.z k lo hi,.i h n=>if k=h then UR g lo hi n n else none
 |_,.i k n,.z h lo hi=>if k=h then UR g n n lo hi else none
 |_,_,_=>
  match yC a,yC b with
  |some u,some v=>(rE P (do eqGuard g t x y u v;binOp g t u v)).bind (nH 4)
  |_,_=>none
def aaV:AV->AV->Option Bool
 |.i k a,.i c b=>if k=c then some (a==b)else none
 |.s a,.s b=>some (a==b)
 |.b a,.b b=>some (a==b)
 |.z k lo hi,.i c b=>if k=c/\(b<lo\/hi<b)then some false else none
 |_,_=>none
def Jl(k:AV):XX->Nat->Option (Option (Nat×AV))
 |[],_=>some none
 |e::es,i=>match aaV k e.1 with
  |some true=>some (some (i,e.2))
  |some false=>Jl k es (i+1)
  |none=>none
def Vo(P:Program)(t:TypeId)(k:AV):Bool:=
 match P.underlying t,k with
 |some (.int _),.i _ _|some (.int _),.z _ _ _|some .string,.s _|some .bool,.b _=>true
 |_,_=>false
def TK(P:Program)(t:TypeId)(m k:AV)(ok:Bool)(J:aA):Q4:=
 match P.underlying t with
 |some (.map a b)=>
  match(match m with|.qK=>some []|.mp id=>(match J.get id with|some (.map es)=>some es|_=>none)|_=>none)with
  |some es=>
   if Vo P a k then
    match Jl k es 0 with
    |some (some (_,v))=>some (if ok then .fB [v,.b true]else v)
    |some none=>
     match P.info? b with
     |some i=>match i.zero with
      |some z=>(nH 4 z).map λz=>if ok then .fB [z,.b false]else z
      |none=>none
     |none=>none
    |none=>none
   else none
  |none=>none
 |_=>none
def TM(P:Program)(t:TypeId)(m k v:AV)(J:aA):Option aA:=
 match P.underlying t,m with
 |some (.map a _),.mp id=>
  match J.get id with
  |some (.map es)=>
   if J.lock<=id/\Vo P a k then
    match Jl k es 0 with
    |some (some (i,_))=>some (J.put id (.map (es.set i (k,v))))
    |some none=>some (J.put id (.map (es++[(k,v)])))
    |none=>none
   else none
  |_=>none
 |_,_=>none
def JB(P:Program)(t:TypeId):YY:=
 match P.underlying t with
 |some (.interface _)=>some true
 |some _=>some false
 |none=>none
def TU(P:Program)(x:AV)(t:TypeId)(ok:Bool):Q4:=
 match JB P t,x with
 |some false,.jq u v=>
  if u=t then some (if ok then .fB [v,.b true]else v)
  else if ok then match P.info? t with
   |some i=>match i.zero with
    |some z=>(nH 4 z).map λz=>.fB [z,.b false]
    |none=>none
   |none=>none
  else none
 |some false,.uP=>
  if ok then match P.info? t with
   |some i=>match i.zero with
    |some z=>(nH 4 z).map λz=>.fB [z,.b false]
    |none=>none
   |none=>none
  else none
 |_,_=>none
def TP(it:AV)(J:aA):We:=
 match it with
 |.p id 0=>
  match J.get id with
  |some (.iter s pos)=>
   if J.lock<=id then
    if pos<s.length then
     let r:=Utf8.decode ⟨⟨s⟩⟩ pos
     some (.fB [.b true,.i .i64 pos,.i .i32 r.1],J.put id (.iter s (pos+r.2)))
    else some (.fB [.b false],J)
   else none
  |_=>none
 |_=>none
def YO(P:Program)(b:Wr)(d x:AV)(J:aA):We:=
 match b[0]? with
 |some t=>
  match xZ P t,d with
  |some (_,a,_,_),.sl id f e _=>
   match Aa J a x,J.get id with
   |some (n,new),some (.cells c h true g)=>
    let k:=Nat.min n e
    if a=0 then none else
    if J.lock<=id/\new.all AV.oO then
     (BD c f (new.take (k*a))).map λi=>(.i .i64 k,J.put id (.cells i h true g))
    else none
   |_,_=>none
  |some (_,a,_,_),.gK=>match Aa J a x with
   |some _=>some (.i .i64 0,J)
   |none=>none
  |_,_=>none
 |none=>none
def YN(P:Program)(t:TypeId)(x:AV)(J:aA):We:=
 match P.underlying t,x with
 |some (.slice _),.gK=>some (.fB [],J)
 |some (.slice _),.ro []=>some (.fB [],J)
 |some (.slice e),.sl id a n _=>
  if n=0 then some (.fB [],J)else
  match Ae P e,J.get id with
  |some z,some (.cells c d true b)=>
   if J.lock<=id/\z.all AV.oO then
    (BD c a (jG n z)).map λf=>(.fB [],J.put id (.cells f d true b))
   else none
  |_,_=>none
 |some (.map _ _),.qK=>some (.fB [],J)
 |some (.map _ _),.mp id=>match J.get id with
  |some (.map _)=>if J.lock<=id then some (.fB [],J.put id (.map []))else none
  |_=>none
 |_,_=>none
def ZC(m c:Nat):Bool:=match gY.nodes[m]?,gY.nodes[c]? with
 |some (.ci k a),some (.ci d b)=>Nat.beq (kc k) (kc d)&&!(JA a b)
 |some (.cs a),some (.cs b)=>!(Ce a b)
 |_,_=>false
def Ho(n m:Nat):Wg->Bool
 |[]=>false
 |p::l=>(bif p.2 then(match gY.nodes[p.1]? with
  |some (.bin .eql a b)=>Nat.beq n a&&ZC m b
  |_=>false)else false) ||Ho n m l
def Gn:BinOp->Option BinOp
 |.eql=>some .neq
 |.neq=>some .eql
 |.lss=>some .geq
 |.geq=>some .lss
 |.leq=>some .gtr
 |.gtr=>some .leq
 |_=>none
def MH(c n m:Nat):Wg->Option Bool
 |[]=>none
 |p::l=>match gY.nodes[p.1]? with
  |some (.bin a b d)=>bif Nat.beq n b&&Nat.beq m d&&Nat.beq (xq a) c then some p.2 else MH c n m l
  |_=>MH c n m l
def Ry(c:BinOp)(n m:Nat):YY:=match Gn c with
 |some a=>(MH (xq a) n m gY.dec).map λb=>!b
 |none=>none
def acQ(x:Nd):YY:=match x with
 |.bin .eql n m=>bif Ho n m gY.dec then some false else Ry .eql n m
 |.bin .neq n m=>bif Ho n m gY.dec then some true else Ry .neq n m
 |.bin a n m=>Ry a n m
 |_=>none
def lu(x:Nd):Q4:=
 match fQ x with
 |some n=>match ZI n with
  |some b=>some (.b b)
  |none=>match acQ x with
   |some b=>some (.b b)
   |none=>some (.nd n)
 |none=>none
def jg:AV->Option Nat
 |.nd n=>some n
 |.i k n=>fQ (.ci k n)
 |.b x=>fQ (.cb x)
 |.s x=>fQ (.cs x)
 |.gK=>fQ (.ml [])
 |_=>none
def nodesOf:Q3->Option Q2
 |[]=>some []
 |a::l=>match jg a,nodesOf l with
  |some n,some r=>some (n::r)
  |_,_=>none
def FY:AV->Option Nat
 |.agg l=>match nodesOf l with
  |some a=>fQ (.mk a)
  |none=>none
 |_=>none
def xA:Nat->Nat->Nat->Bool
 |0,m,n=>Nat.beq m n
 |f+1,m,n=>Nat.beq m n ||match gY.nodes[m]? with
  |some (.upd _ _ a _ _)=>xA f a n
  |some (.same a _)=>xA f a n
  |_=>false
def elemsOf(agg:Bool)(size:Nat):Nat->List AV->Option Q2
 |0,_=>some []
 |n+1,cs=>match(if agg then FY (.agg (cs.take size))else(cs.head?).bind jg),elemsOf agg size n (cs.drop size)with
  |some a,some r=>some (a::r)
  |_,_=>none
def listOf(P:Program)(J:aA)(e:TypeId):AV->Option Nat
 |.nd n=>some n
 |.gK=>fQ (.ml [])
 |.sv id n=>match J.get id with
  |some (.vec m et _)=>if Nat.beq e et&&xA 100 m n then some m else none
  |_=>none
 |.sl id off len _=>match J.get id,sizeT P e,oP P e with
  |some (.cells c et _ _),some size,some agg=>if Nat.beq e et&&((agg&&Nat.blt 0 size) ||Nat.beq size 1)then match takeN c off (len*size)with
   |some cs=>match elemsOf agg size len cs with
    |some a=>fQ (.ml a)
    |none=>none
   |none=>none
   else none
  |_,_,_=>none
 |_=>none
def awl(a:AV):Bool:=
 match a with
 |.nd _|.rx _ _|.sv _ _|.pv _ _ _|.pd _ _=>true
 |_=>false
def acp(P:Program)(t:TypeId):QR:=
 match P.underlying t with
 |some (.int _)=>some 0
 |some .string=>some 1
 |some .bool=>some 2
 |_=>none
def NY(P:Program):List Field->Nat->Option Q2
 |[],_=>some []
 |f::fs,k=>if !(f.name == "_")&&Nat.beq f.offset k then match acp P f.type,NY P fs (k+1)with
  |some a,some r=>some (a::r)
  |_,_=>none
  else none
def XJ(P:Program)(c:BinOp)(t:TypeId)(a b:AV):Q4:=
 match P.underlying t with
 |some (.int _)|some .string=>match jg a,jg b with
  |some x,some y=>lu (.bin c x y)
  |_,_=>none
 |some .bool=>match jg a,jg b with
  |some x,some y=>lu (.F7 c x y)
  |_,_=>none
 |some (.struct d)=>if !(P.stoodInHeld t)&&!(P.eqGuardType P.depth t)then match NY P d.toList 0,FY a,FY b with
   |some e,some x,some y=>lu (.F8 c e x y)
   |_,_,_=>none
  else none
 |some (.pointer _)=>match c,a,b with
  |.eql,.rx _ _,.jU|.eql,.jU,.rx _ _=>some (.b false)
  |.neq,.rx _ _,.jU|.neq,.jU,.rx _ _=>some (.b true)
  |.eql,.pv _ _ _,.jU|.eql,.jU,.pv _ _ _=>some (.b false)
  |.neq,.pv _ _ _,.jU|.neq,.jU,.pv _ _ _=>some (.b true)
  |_,_,_=>none
 |_=>none
def OD(b:UnOp)(a:AV):Q4:=
 match a with
 |.nd n=>lu (.un b n)
 |_=>none
def XK(P:Program)(src dst:TypeId)(x:AV)(J:aA):We:=
 match P.underlying src,P.underlying dst,x with
 |some _,some (.int k),.nd n=>(lu (.conv k n)).map (·,J)
 |some .string,some .string,.nd n=>(lu (.HY n)).map (·,J)
 |some .string,some (.slice e),.nd n=>
  match P.underlying e with
  |some (.int .u8)=>if e≠0/\sizeT P e=some 1 then match fQ (.bytes n)with
    |some m=>some (.sv J.next m,J.new (.vec m e false))
    |none=>none
   else none
  |_=>none
 |some (.slice e),some .string,x=>
  match P.underlying e with
  |some (.int .u8)=>match listOf P J e x with
    |some m=>(lu (.str m)).map (·,J)
    |none=>none
  |_=>none
 |_,_,_=>none
def ade(P:Program)(t:TypeId)(x:AV):Q4:=
 match P.underlying t,x with
 |some .string,.nd n=>lu (.slen n)
 |some (.slice _),.nd n=>lu (.len n)
 |some (.slice _),.sv _ n=>lu (.len n)
 |_,_=>none
def dB(a:Q4):Q4:=
 match a with
 |some (.nd n)=>match ZI n with
  |some b=>some (.b b)
  |none=>none
 |x=>x
def JG(i:Nat):Nat->Nat->Option AV
 |0,_=>none
 |c+1,j=>match lu (.Bd i j)with
  |some (.b true)=>some (.i .i64 j)
  |some (.b false)=>JG i c (j+1)
  |some (.nd m)=>match dB (some (.nd m))with
   |some (.b true)=>some (.i .i64 j)
   |some (.b false)=>JG i c (j+1)
   |_=>none
  |_=>none
def XM(P:Program)(t:TypeId)(x a:AV):Q4:=
 match P.underlying t with
 |some .string=>match jg x,jg a with
  |some n,some i=>lu (.H6 n i)
  |_,_=>none
 |some (.array len _)=>match jg a with
  |some i=>match JG i len 0 with
   |some k=>FW P t x k
   |none=>none
  |none=>none
 |_=>none
def PD:Q4->Option Nat
 |none=>fQ (.ci .i64 0)
 |some a=>jg a
def Um(x:Nd):Q4->Option Nat
 |none=>fQ x
 |some a=>jg a
def RV(P:Program)(t:TypeId)(x:AV)(lo hi:Q4):Q4:=
 match P.underlying t with
 |some .string=>match jg x with
  |some n=>match PD lo,Um (.slen n) hi with
   |some l,some h=>lu (.H7 n l h)
   |_,_=>none
  |none=>none
 |some (.slice e)=>match x,sizeT P e with
  |.nd n,some a=>match PD lo,Um (.len n) hi with
   |some l,some h=>lu (.EH a n l h)
   |_,_=>none
  |_,_=>none
 |_=>none
def XU(P:Program)(t:TypeId)(J:aA)(x:AV)(lo hi:Q4):We:=
 match P.underlying t,x with
 |some (.slice e),.sv id n=>match J.get id,sizeT P e with
  |some (.vec m b f),some a=>if Nat.beq e b&&xA 100 m n&&Nat.ble J.lock id then
    match lo with
    |none=>match PD none,Um (.len m) hi with
     |some z,some h=>(fQ (.EH a m z h)).map λk=>(.sv id k,J.put id (.vec k b f))
     |_,_=>none
    |some _=>(RV P t (.nd m) lo hi).map (·,J.kill id)
   else none
  |_,_=>none
 |_,_=>none
def XL(P:Program)(t:TypeId)(x:AV)(f:Nat):Q4:=
 match P.underlying t with
 |some (.struct a)=>
  match a[f]? with
  |some c=>match sizeT P c.type with
   |some n=>if n=0 then none else match x with
    |.rx m b=>some (.rx m (b+c.offset))
    |.pv id m b=>some (.pv id m (b+c.offset))
    |_=>none
   |none=>none
  |none=>none
 |_=>none
def XO(P:Program)(J:aA)(t:TypeId)(x b:AV):Q4:=
 match P.underlying t with
 |some (.slice e)=>match sizeT P e,jg b with
  |some a,some i=>match x with
   |.nd n=>(fQ (.at a n i)).map λm=>.rx m 0
   |.sv id n=>match J.get id with
    |some (.vec _ c _)=>if Nat.beq e c then(fQ (.idx n i)).map λm=>.pv id m 0 else none
    |_=>none
   |.sl _ _ len _=>match JG i len 0 with
    |some k=>zH P t x k
    |none=>none
   |_=>none
  |_,_=>none
 |some (.array len _)=>match jg b with
  |some i=>match JG i len 0 with
   |some k=>zH P t x k
   |none=>none
  |none=>none
 |_=>none
def Jd(m:Nat):Nat->Nat->Option Q3
 |_,0=>some []
 |off,n+1=>match lu (.cell off m),Jd m (off+1) n with
  |some a,some r=>some (a::r)
  |_,_=>none
def RU(P:Program)(t:TypeId)(m off:Nat):Q4:=
 match oP P t with
 |some true=>match sizeT P t with
  |some n=>(Jd m off n).map .agg
  |none=>none
 |some false=>lu (.cell off m)
 |none=>none
def XP(P:Program)(t:TypeId)(J:aA)(a:AV):Q4:=
 match a with
 |.rx m b=>RU P t m b
 |.pv id i b=>match J.get id with
  |some (.vec m d _)=>match sizeT P d with
   |some c=>match fQ (.at c m i)with
    |some x=>RU P t x b
    |none=>none
   |none=>none
  |_=>none
 |_=>none
def QG(P:Program)(b:TypeId)(k:AV):Option (Nat×Wf):=
 match P.underlying b,jg k with
 |some (.int a),some n=>match fQ (.ci a 0)with
  |some z=>(fQ (.bin .eql n z)).map λ_=>(n,some a)
  |none=>none
 |some .string,some n=>match fQ (.cs [])with
  |some z=>(fQ (.bin .eql n z)).map λ_=>(n,none)
  |none=>none
 |_,_=>none
def aaW(n:Nat)(e:AV):YY:=
 match jg e with
 |some m=>match(lu (.bin .eql n m))with
  |some (.b b)=>some b
  |some (.nd j)=>match dB (some (.nd j))with
   |some (.b b)=>some b
   |_=>none
  |_=>none
 |none=>none
def MW(n:Nat):XX->Nat->Option (Option (Nat×AV))
 |[],_=>some none
 |e::es,i=>match aaW n e.1 with
  |some true=>some (some (i,e.2))
  |some false=>MW n es (i+1)
  |none=>none
def Sm(P:Program)(et:TypeId)(v:AV):Option (Nat×QR):=
 match oP P et with
 |some true=>match FY v,sizeT P et with
  |some n,some k=>if Nat.beq v.cells.length k then some (n,some k)else none
  |_,_=>none
 |some false=>(jg v).map (·,none)
 |none=>none
def ND:Wf->Option IntKind->Bool
 |none,none=>true
 |some a,some b=>Nat.beq (kc a) (kc b)
 |_,_=>false
def RY:QR->Option Nat->Bool
 |none,none=>true
 |some a,some b=>Nat.beq a b
 |_,_=>false
def SC(P:Program)(et:TypeId):Q4:=
 match P.info? et with
 |some i=>match i.zero with
  |some z=>nH 4 z
  |none=>none
 |none=>none
def XQ(P:Program)(t:TypeId)(m k:AV)(ok:Bool)(J:aA):Q4:=
 match P.underlying t,m with
 |some (.map f a),.mp id=>
  match QG P f k,J.get id with
  |some (n,_),some (.map es)=>match MW n es 0 with
   |some (some (_,v))=>some (if ok then .fB [v,.b true]else v)
   |some none=>(SC P a).map λz=>if ok then .fB [z,.b false]else z
   |none=>none
  |some (n,c),some (.pmap es)=>
   if ND c none then match MW n (es.map λe=>(AV.s e.1,e.2)) 0 with
    |some (some (_,v))=>some (if ok then .fB [v,.b true]else v)
    |some none=>(SC P a).map λz=>if ok then .fB [z,.b false]else z
    |none=>none
   else none
  |some (n,c),some (.smap j h i)=>
   if ND c h then match(SC P a).bind (Sm P a)with
    |some (z,d)=>if RY i d then match(fQ (.He z j n)).bind λg=>RU P a g 0 with
     |some v=>if ok then match lu (.Hf j n)with
       |some b=>some (.fB [v,b])
       |none=>none
      else some v
     |none=>none
     else none
    |none=>none
   else none
  |_,_=>none
 |_,_=>none
def XT(P:Program)(t:TypeId)(m k v:AV)(J:aA):Option aA:=
 match P.underlying t,m with
 |some (.map e f),.mp id=>
  if Nat.ble J.lock id then
   match QG P e k,Sm P f v,J.get id with
   |some (n,a),some (u,b),some (.map [])=>match fQ (.ml [])with
    |some j=>(fQ (.Dc j n u)).map λc=>J.put id (.smap c a b)
    |none=>none
   |some (n,a),some (u,b),some (.smap j g d)=>if ND a g&&RY b d then(fQ (.Dc j n u)).map λc=>J.put id (.smap c a b)else none
   |_,_,_=>none
  else none
 |_,_=>none
def mapArg(v:AV):Bool:=match v with
 |.nd n=>(match gY.nodes[n]? with
  |some (.len _)=>true
  |_=>false)
 |v=>(xP v).isSome
def XV(P:Program)(t:TypeId)(J:aA)(a v:AV):Option aA:=
 match a with
 |.pv id i c=>match J.get id with
  |some (.vec m d f)=>
   if J.lock<=id/\sizeT P t=some v.cells.length then
    match sizeT P d,nodesOf v.cells with
    |some b,some e=>match fQ (.upd b c m i e)with
     |some g=>some (J.put id (.vec g d f))
     |none=>none
    |_,_=>none
   else none
  |_=>none
 |_=>none
def ada(P:Program)(g:Wr)(s x:AV)(J:aA):We:=
 match g.toList with
 |[t,i]=>
  match xZ P t with
  |some (e,d,bytes,_)=>
   if d=0 then none else
   match(match P.underlying i with
    |some .string=>if d=1 then match jg x with
      |some n=>fQ (.bytes n)
      |none=>none
     else none
    |some (.slice _)=>listOf P J e x
    |_=>none)with
   |none=>none
   |some b=>
    match s with
    |.gK=>match fQ (.ml [])with
     |some a=>(fQ (.app d bytes a b)).map λm=>(.sv J.next m,J.new (.vec m e true))
     |none=>none
    |.sv id n=>match J.get id with
     |some (.vec a h f)=>if Nat.beq h e&&xA 100 a n&&Nat.ble J.lock id then(fQ (.app d bytes a b)).map λm=>(.sv J.next m,(J.kill id).new (.vec m e f))else none
     |_=>none
    |.sl id 0 0 (some 0)=>match J.get id with
     |some (.cells [] h true false)=>if Nat.beq h e&&Nat.ble J.lock id then match fQ (.ml [])with
      |some a=>(fQ (.app d bytes a b)).map λm=>(.sv J.next m,(J.kill id).new (.vec m e false))
      |none=>none
      else none
     |_=>none
    |.sl id 0 len none=>match J.get id with
     |some (.cells c h true true)=>if Nat.beq h e&&Nat.ble J.lock id&&Nat.beq c.length (len*d)then match listOf P J e (.sl id 0 len none)with
      |some a=>(fQ (.app d bytes a b)).map λm=>(.sv J.next m,(J.kill id).new (.vec m e false))
      |none=>none
      else none
     |_=>none
    |_=>none
  |none=>none
 |_=>none
def Wq(P:Program)(e:TypeId)(size len:Nat)(cs:Q3):QR:=
 if cs.any awl then
  match oP P e with
  |some a=>if((a&&Nat.blt 0 size) ||Nat.beq size 1)&&Nat.blt 0 len&&Nat.beq cs.length (len*size)then match elemsOf a size len cs with
   |some b=>fQ (.ml b)
   |none=>none
   else none
  |none=>none
 else none
def Ws(P:Program)(J:aA)(e:TypeId)(size len:Nat)(cs:Q3):Q4×aA:=
 match Wq P e size len cs with
 |some m=>(some (.sv J.next m),J.new (.vec m e false))
 |none=>(some (.sl J.next 0 len (some len)),J.new (.cells cs e true false))
def XR(P:Program)(t:TypeId)(len cap:AV)(J:aA):We:=
 match P.underlying t with
 |some (.slice d)=>match xZ P t,oP P d with
  |some (e,a,bytes,z),some b=>
   if a=0 then none else
   match(if b then FY (.agg z)else(z.head?).bind jg),jg len,jg cap with
   |some f,some l,some c=>(fQ (.rep a bytes f l c)).map λm=>(.sv J.next m,J.new (.vec m e false))
   |_,_,_=>none
  |_,_=>none
 |_=>none
def KN(P:Program)(b:Builtin)(a:Wr)(args:Q3)(J:aA):W4:=
 match b,args with
 |.len,[x]=>match a[0]? with
  |some t=>(ade P t x).map λv=>(some v,J)
  |none=>none
 |.append,[s,x]=>(ada P a s x J).map λr=>(some r.1,r.2)
 |.min,[x,y]=>match jg x,jg y with
  |some m,some n=>(lu (.mm false m n)).map λv=>(some v,J)
  |_,_=>none
 |.max,[x,y]=>match jg x,jg y with
  |some m,some n=>(lu (.mm true m n)).map λv=>(some v,J)
  |_,_=>none
 |.unsafeSliceData,[.sv id n]=>match J.get id with
  |some (.vec m _ true)=>if xA 100 m n then some (some (.pd id n),J)else none
  |_=>none
 |.unsafeString,[.pd id n,.nd k]=>
  match a.toList with
  |[t,_]=>
   match P.underlying t,J.get id with
   |some (.pointer e),some (.vec m c _)=>
    if c=e/\e≠0/\P.cellsOf e=1/\J.lock<=id then
     match gY.nodes[k]? with
     |some (.len d)=>if xA 100 m n&&xA 100 m d then(lu (.str m)).map λv=>(some v,J.kill id)else none
     |_=>none
    else none
   |_,_=>none
  |_=>none
 |_,_=>none
def TN(P:Program)(a:String)(J:aA):AV->Option (FuncId×AV)
 |.jq t v=>
  match P.info? t,P.underlying t with
  |some i,some d=>match i.methods.find? (·.name==a)with
   |some m=>match m.path.toList,m.func with
    |[],some (f,b)=>match d,b with
     |.pointer _,true=>some (f,v)
     |.pointer e,false=>match v with
      |.p id off=>(xQ P e J (.p id off)).map λx=>(f,x)
      |_=>none
     |_,true=>none
     |_,false=>some (f,v)
    |_,_=>none
   |none=>none
  |_,_=>none
 |_=>none
abbrev Caller:=FuncId->List AV->aA->Option (AV×aA)
def fC(J:aA):Q4->Option (Q4×aA):=Option.map λv=>(some v,J)
def uT:We->Option (Q4×aA):=Option.map λ(v,J)=>(some v,J)
def Oe:Option aA->Option (Q4×aA):=Option.map λJ=>(none,J)
def IG(P:Program)(b:Builtin)(a:Wr)(args:Q3)(J:aA):W4:=
 match b,args with
 |.len,[x]=>match a[0]? with
  |some t=>fC J (TJ P J t x)
  |none=>none
 |.append,[s,x]=>uT (YM P a s x J)
 |.copy,[d,x]=>uT (YO P a d x J)
 |.clear,[x]=>match a[0]? with
  |some t=>uT (YN P t x J)
  |none=>none
 |.cap,[x]=>match a[0]? with
  |some t=>match P.underlying t,x with
   |some (.slice _),.gK=>fC J (some (.i .i64 0))
   |some (.slice _),.sl _ _ _ (some c)=>fC J (some (.i .i64 c))
   |_,_=>none
  |none=>none
 |.unsafeSliceData,[.gK]=>fC J (some .jU)
 |.unsafeSliceData,[.sl id f n g]=>if n=0/\(g=none\/g=some 0)then none else fC J (some (.p id f))
 |.unsafeString,[x,.i .i64 n]=>
  match a.toList with
  |[t,_]=>
   if n=0 then(match x with
    |.jU=>fC J (some (.s []))
    |.p _ _=>fC J (some (.s []))
    |_=>none)
   else match x with
   |.p id f=>match P.underlying t,J.get id with
    |some (.pointer e),some (.cells c i true h)=>
     if i=e/\e≠0/\P.cellsOf e=1/\0<n/\n<2^62/\J.lock<=id then
      match takeN c f n.toNat with
      |some r=>match bytesOf r with
       |some b=>some (some (.s b),J.put id (.cells c i false h))
       |none=>none
      |none=>none
     else none
    |_,_=>none
   |_=>none
  |_=>none
 |.min,[x,y]=>match yC x,yC y with
  |some u,some v=>fC J ((rE P (Builtin.min_ #[] 0 #[u,v])).bind (nH 4))
  |_,_=>none
 |.max,[x,y]=>match yC x,yC y with
  |some u,some v=>fC J ((rE P (Builtin.max_ #[] 0 #[u,v])).bind (nH 4))
  |_,_=>none
 |.min,[x,y,z]=>match yC x,yC y,yC z with
  |some u,some v,some t=>fC J ((rE P (Builtin.min_ #[] 0 #[u,v,t])).bind (nH 4))
  |_,_,_=>none
 |_,_=>none
def adb(b:Builtin)(args:Q3):Bool:=
 match b,args with
 |.append,.gK::_=>!(gY.nodes.isEmpty)
 |_,_=>false
def lD{α:Type}(a:Option α)(b:Unit->Option α):Option α:=
 match a with
 |some x=>some x
 |none=>b ()
def xu{α:Type}{a:Option α}{b:Unit->Option α}{x:α}(h:lD a b=some x):a=some x\/b ()=some x:=by
 unfold lD at h;split at h
 ·exact .inl h
 ·exact .inr h
def wM(P:Program)(call:Caller)(o:Oper)(d:QP)(J:aA):W4:=
 match o.op with
 |.move x|.assign x=>fC J (d x)
 |.pick c a b=>match dB (d c)with
  |some (.b t)=>fC J (if t then d a else d b)
  |_=>none
 |.alloc t=>(Ae P t).map λz=>(some (.p J.next 0),J.new (.cells z t true false))
 |.box t x=>(d x).map λv=>(some (.p J.next 0),J.new (.cells v.cells t true false))
 |.build t j=>match Gx d j.toList with
  |some D=>fC J (TD P t D)
  |none=>none
 |.buildSlice t len j=>
  match xZ P t,Gx d j.toList with
  |some (e,g,_,z),some D=>
   if len*g>2^24 then none else
   match BQ (λi=>some (i*g,g)) (if len*g=0 then[]else jG len z) D with
   |some q=>some (Ws P J e g len q)
   |none=>none
  |_,_=>none
 |.load t a=>match d a with
  |some a=>fC J (lD (xQ P t J a) λ_=>XP P t J a)
  |none=>none
 |.store t a x=>match d a,d x with
  |some a,some v=>Oe (lD (FX P t J a v) λ_=>XV P t J a v)
  |_,_=>none
 |.nilCheck x=>match d x with
  |some (.p id n)=>fC J (some (.p id n))
  |some (.rp a n)=>fC J (some (.rp a n))
  |some (.rx m n)=>fC J (some (.rx m n))
  |some (.pv id m n)=>fC J (some (.pv id m n))
  |some (.fn f E q)=>fC J (some (.fn f E q))
  |_=>none
 |.binOp w t x y _=>match d x,d y with
  |some a,some b=>fC J (lD (vG P w t x y a b) λ_=>XJ P w t a b)
  |_,_=>none
 |.unOp w _ x=>match d x with
  |some a=>match yC a with
   |some u=>fC J ((rE P (Op.unary w u)).bind (nH 4))
   |none=>fC J (OD w a)
  |none=>none
 |.convert src A x=>match d x with
  |some a=>uT (lD (zG P src A a J) λ_=>XK P src A a J)
  |none=>none
 |.makeInterface t x=>match d x,JB P t with
  |some a,some false=>fC J (some (.jq t a))
  |_,_=>none
 |.makeFunc (.func f) first p=>match CS d first.toList,CS d p.toList with
   |some E,some q=>fC J (some (.fn f E q))
   |_,_=>none
 |.makeMap t r=>match r with
  |none=>some (some (.mp J.next),J.new (.map []))
  |some h=>match d h,P.underlying t with
   |some v,some (.map _ _)=>if mapArg v then some (some (.mp J.next),J.new (.map []))else none
   |_,_=>none
 |.makeSlice t l c=>match d l,d c with
  |some l,some c=>uT (lD (TL P t l c J) λ_=>XR P t l c J)
  |_,_=>none
 |.slice t x lo hi none=>match d x,Kr d lo,Kr d hi with
  |some v,some lo,some hi=>lD (fC J (lD (BX P t J v lo hi) λ_=>RV P t v lo hi)) λ_=>uT (XU P t J v lo hi)
  |_,_,_=>none
 |.fieldAddr t x f=>match d x with
  |some a=>fC J (lD (TI P t a f) λ_=>XL P t a f)
  |none=>none
 |.field t x f=>match d x with
  |some a=>fC J (TF P t a f)
  |none=>none
 |.indexAddr t x F=>match d x,d F with
  |some a,some k=>fC J (lD (zH P t a k) λ_=>XO P J t a k)
  |_,_=>none
 |.index t x F=>match d x,d F with
  |some a,some k=>fC J (lD (FW P t a k) λ_=>XM P t a k)
  |_,_=>none
 |.lookup t m k ok=>match d m,d k with
  |some m,some k=>fC J (lD (TK P t m k ok J) λ_=>XQ P t m k ok J)
  |_,_=>none
 |.mapUpdate t m k v|.insert t m k v=>match d m,d k,d v with
  |some m,some k,some v=>Oe (lD (TM P t m k v J) λ_=>XT P t m k v J)
  |_,_,_=>none
 |.range t x=>match P.underlying t,d x with
  |some .string,some (.s s)=>some (some (.p J.next 0),J.new (.iter s 0))
  |some (.map _ _),some .qK=>some (some (.p J.next 0),J.new (.iterM none))
  |some (.map _ _),some (.mp id)=>match J.get id with
   |some (.map _)=>some (some (.p J.next 0),J.new (.iterM (some id)))
   |_=>none
  |_,_=>none
 |.next G true=>match d G with
  |some a=>uT (TP a J)
  |none=>none
 |.next G false=>match d G with
  |some (.p id 0)=>match J.get id with
   |some (.iterM none)=>some (some (.fB [.b false]),J)
   |some (.iterM (some m))=>match J.get m with
    |some (.map [])=>some (some (.fB [.b false]),J)
    |_=>none
   |_=>none
  |_=>none
 |.typeAssert x _ t ok=>match d x with
  |some a=>fC J (TU P a t ok)
  |none=>none
 |.extract x k=>match d x with
  |some (.fB l)=>fC J l[k]?
  |_=>none
 |.call c=>match CS d c.args.toList with
  |some args=>
   match c.callee with
   |.builtin b=>bif adb b args then lD (KN P b c.argTypes args J) λ_=>IG P b c.argTypes args J else lD (IG P b c.argTypes args J) λ_=>KN P b c.argTypes args J
   |.value f=>match d f with
    |some (.fn f H p)=>uT (call f (H++args++p) J)
    |_=>none
   |.invoke r B=>match(d r).bind (TN P B J)with
    |some (f,x)=>uT (call f (x::args) J)
    |none=>none
  |none=>none
 |_=>none
def Z4(c:BinOp)(k:IntKind)(a b:Int):Q4:=
 match c with
 |.add=>some (.i k (k.wrap (a+b)))
 |.sub=>some (.i k (k.wrap (a-b)))
 |.mul=>some (.i k (k.wrap (a*b)))
 |.eql=>some (.b (a==b))
 |.neq=>some (.b (a !=b))
 |.lss=>some (.b (decide (a<b)))
 |.leq=>some (.b (decide (a<=b)))
 |.gtr=>some (.b (decide (a>b)))
 |.geq=>some (.b (decide (a>=b)))
 |_=>none
def Z8(c:BinOp)(a b:Q0):Q4:=
 match c with
 |.add=>if a.length+b.length<=9223372036854775807 then some (.s (a++b))else none
 |.eql=>some (.b (a==b))
 |.neq=>some (.b (!(a==b)))
 |.lss=>some (.b (Op.bytesLess a b))
 |.leq=>some (.b (Op.bytesLess a b ||a==b))
 |.gtr=>some (.b (!(Op.bytesLess a b ||a==b)))
 |.geq=>some (.b (!(Op.bytesLess a b)))
 |_=>none
def ZY(P:Program)(c:BinOp)(t:TypeId)(x y:Operand)(a b:AV):Q4:=
 match a with
 |.i k m=>match b with
  |.i d n=>if k=d then match Z4 c k m n with
    |some r=>some r
    |none=>vG P c t x y a b
   else vG P c t x y a b
  |_=>vG P c t x y a b
 |.s u=>match b with
  |.s v=>match Z8 c u v with
   |some r=>some r
   |none=>vG P c t x y a b
  |_=>vG P c t x y a b
 |_=>vG P c t x y a b
def toList_mk(l:Q0):(⟨⟨l⟩⟩:ByteArray).toList=l:=by rw[ByteArray.toList_eq]
def asX{P:Program}{a:BinOp}{t:TypeId}{x y:Operand}{k:IntKind}{m n:Int}{r:AV}(h:Z4 a k m n=some r):vG P a t x y (.i k m) (.i k n)=some r:=by
 have b:∀v:Value,(do eqGuard a t x y (.int k m) (.int k n);binOp a t (.int k m) (.int k n):Sem Value)=.pure v->nH 4 v=some r->vG P a t x y (.i k m) (.i k n)=some r:=by
  intro v c d;have:vG P a t x y (.i k m) (.i k n)=(rE P (do eqGuard a t x y (.int k m) (.int k n);binOp a t (.int k m) (.int k n):Sem Value)).bind (nH 4):=by cases a<;>rfl
  rw[this,c];exact d
 cases a<;>simp only[Z4,reduceCtorEq,aY]at h<;>subst h
 all_goals refine b _ (by simp only[eqGuard,binOp,ne_eq,not_true_eq_false,if_false,Op.intArith,Op.intCmp];rfl) rfl
def aeS(a b:Q0):((⟨⟨a⟩⟩:ByteArray)++⟨⟨b⟩⟩)=⟨⟨a++b⟩⟩:=by apply ByteArray.ext;rw[ByteArray.data_append];simp
def atq{P:Program}{a:BinOp}{t:TypeId}{x y:Operand}{u v:Q0}{r:AV}(h:Z8 a u v=some r):vG P a t x y (.s u) (.s v)=some r:=by
 have b:∀z:Value,(do eqGuard a t x y (.string ⟨⟨u⟩⟩) (.string ⟨⟨v⟩⟩);binOp a t (.string ⟨⟨u⟩⟩) (.string ⟨⟨v⟩⟩):Sem Value)=.pure z->nH 4 z=some r->vG P a t x y (.s u) (.s v)=some r:=by
  intro z c d;have:vG P a t x y (.s u) (.s v)=(rE P (do eqGuard a t x y (.string ⟨⟨u⟩⟩) (.string ⟨⟨v⟩⟩);binOp a t (.string ⟨⟨u⟩⟩) (.string ⟨⟨v⟩⟩):Sem Value)).bind (nH 4):=by cases a<;>rfl
  rw[this,c];exact d
 cases a<;>simp only[Z8,reduceCtorEq,aY]at h
 case add=>
  split at h
  ·next e=>
   cases h;have:¬(((⟨⟨u⟩⟩:ByteArray).size+(⟨⟨v⟩⟩:ByteArray).size:Nat):Int)>IntKind.i64.max:=by
    show ¬((u.length+v.length:Nat):Int)>9223372036854775807
    omega
   exact b (.string ⟨⟨u++v⟩⟩) (by simp only[eqGuard,binOp,Op.stringOp,ah this,aeS];rfl) rfl
  ·cases h
 all_goals subst h
 all_goals refine b _ (by simp only[eqGuard,binOp,Op.stringOp,toList_mk];rfl) rfl
def asW(P:Program)(d:BinOp)(t:TypeId)(x y:Operand)(a b:AV):ZY P d t x y a b=vG P d t x y a b:=by
 unfold ZY;split
 ·split
  ·split
   ·next e=>
    subst e;split
    ·next r c=>exact(asX c).symm
    ·rfl
   ·rfl
  ·rfl
 ·split
  ·split
   ·next r c=>exact(atq c).symm
   ·rfl
  ·rfl
 ·rfl
def fUn(P:Program)(J:aA)(b:UnOp)(a:AV):W4:=
 match b with
 |.not=>match a with
  |.b x=>some (some (.b (!x)),J)
  |_=>match yC a with
   |some u=>fC J ((rE P (Op.unary b u)).bind (nH 4))
   |none=>fC J (OD b a)
 |_=>match yC a with
  |some u=>fC J ((rE P (Op.unary b u)).bind (nH 4))
  |none=>fC J (OD b a)
def agO(_P:Program)(_call:Caller)(a:QP)(J:aA)(x:Operand):W4:=
 fC J (a x)
def asY(_P:Program)(_call:Caller)(d:QP)(J:aA)(c:Operand)(a:Operand)(b:Operand):W4:=
 match dB (d c)with
  |some (.b t)=>fC J (if t then d a else d b)
  |_=>none
def as9(P:Program)(_call:Caller)(_ev:QP)(J:aA)(t:TypeId):W4:=
 (Ae P t).map λz=>(some (.p J.next 0),J.new (.cells z t true false))
def ati(_P:Program)(_call:Caller)(a:QP)(J:aA)(t:TypeId)(x:Operand):W4:=
 (a x).map λv=>(some (.p J.next 0),J.new (.cells v.cells t true false))
def atj(P:Program)(_call:Caller)(b:QP)(J:aA)(t:TypeId)(a:Array (Nat×Operand)):W4:=
 match Gx b a.toList with
  |some c=>fC J (TD P t c)
  |none=>none
def atl(P:Program)(_call:Caller)(c:QP)(J:aA)(t:TypeId)(len:Nat)(b:Array (Nat×Operand)):W4:=
     match xZ P t,Gx c b.toList with
    |some (e,a,_,z),some d=>
     if len*a>2^24 then none else
     match BQ (λi=>some (i*a,a)) (if len*a=0 then[]else jG len z) d with
     |some f=>some (Ws P J e a len f)
     |none=>none
    |_,_=>none
def atm(P:Program)(_call:Caller)(b:QP)(J:aA)(t:TypeId)(a:Operand):W4:=
 match b a with
  |some a=>fC J (lD (xQ P t J a) λ_=>XP P t J a)
  |none=>none
def atn(P:Program)(_call:Caller)(b:QP)(J:aA)(t:TypeId)(a:Operand)(x:Operand):W4:=
 match b a,b x with
  |some a,some v=>Oe (lD (FX P t J a v) λ_=>XV P t J a v)
  |_,_=>none
def ato(_P:Program)(_call:Caller)(c:QP)(J:aA)(x:Operand):W4:=
 match c x with
  |some (.p id b)=>fC J (some (.p id b))
  |some (.rp a b)=>fC J (some (.rp a b))
  |some (.rx m b)=>fC J (some (.rx m b))
  |some (.pv id m b)=>fC J (some (.pv id m b))
  |some (.fn f d e)=>fC J (some (.fn f d e))
  |_=>none
def Z7(P:Program)(_call:Caller)(c:QP)(J:aA)(d:BinOp)(t:TypeId)(x:Operand)(y:Operand):W4:=
 match c x,c y with
  |some a,some b=>fC J (lD (ZY P d t x y a b) λ_=>XJ P d t a b)
  |_,_=>none
def Z5(P:Program)(_call:Caller)(b:QP)(J:aA)(c:UnOp)(x:Operand):W4:=
 match b x with
  |some a=>fUn P J c a
  |none=>none
def asZ(P:Program)(_call:Caller)(b:QP)(J:aA)(src:TypeId)(dst:TypeId)(x:Operand):W4:=
 match b x with
  |some a=>uT (lD (zG P src dst a J) λ_=>XK P src dst a J)
  |none=>none
def as1(P:Program)(_call:Caller)(b:QP)(J:aA)(t:TypeId)(x:Operand):W4:=
 match b x,JB P t with
  |some a,some false=>fC J (some (.jq t a))
  |_,_=>none
def as2(_P:Program)(_call:Caller)(b:QP)(J:aA)(f:FuncId)(first:Array Operand)(a:Array Operand):W4:=
 match CS b first.toList,CS b a.toList with
  |some c,some d=>fC J (some (.fn f c d))
  |_,_=>none
def as3(P:Program)(_call:Caller)(a:QP)(J:aA)(t:TypeId)(r:Option Operand):W4:=
 match r with
  |none=>some (some (.mp J.next),J.new (.map []))
  |some h=>match a h,P.underlying t with
   |some v,some (.map _ _)=>if mapArg v then some (some (.mp J.next),J.new (.map []))else none
   |_,_=>none
def as4(P:Program)(_call:Caller)(a:QP)(J:aA)(t:TypeId)(l:Operand)(c:Operand):W4:=
 match a l,a c with
  |some l,some c=>uT (lD (TL P t l c J) λ_=>XR P t l c J)
  |_,_=>none
def as5(P:Program)(_call:Caller)(a:QP)(J:aA)(t:TypeId)(x:Operand)(lo:Option Operand)(hi:Option Operand):W4:=
 match a x,Kr a lo,Kr a hi with
  |some v,some lo,some hi=>lD (fC J (lD (BX P t J v lo hi) λ_=>RV P t v lo hi)) λ_=>uT (XU P t J v lo hi)
  |_,_,_=>none
def as6(P:Program)(_call:Caller)(b:QP)(J:aA)(t:TypeId)(x:Operand)(f:Nat):W4:=
 match b x with
  |some a=>fC J (lD (TI P t a f) λ_=>XL P t a f)
  |none=>none
def as7(P:Program)(_call:Caller)(b:QP)(J:aA)(t:TypeId)(x:Operand)(f:Nat):W4:=
 match b x with
  |some a=>fC J (TF P t a f)
  |none=>none
def as8(P:Program)(_call:Caller)(b:QP)(J:aA)(t:TypeId)(x:Operand)(c:Operand):W4:=
 match b x,b c with
  |some a,some k=>fC J (lD (zH P t a k) λ_=>XO P J t a k)
  |_,_=>none
def ata(P:Program)(_call:Caller)(b:QP)(J:aA)(t:TypeId)(x:Operand)(c:Operand):W4:=
 match b x,b c with
  |some a,some k=>fC J (lD (FW P t a k) λ_=>XM P t a k)
  |_,_=>none
def atb(P:Program)(_call:Caller)(a:QP)(J:aA)(t:TypeId)(m:Operand)(k:Operand)(ok:Bool):W4:=
 match a m,a k with
  |some m,some k=>fC J (lD (TK P t m k ok J) λ_=>XQ P t m k ok J)
  |_,_=>none
def agP(P:Program)(_call:Caller)(a:QP)(J:aA)(t:TypeId)(m:Operand)(k:Operand)(v:Operand):W4:=
 match a m,a k,a v with
  |some m,some k,some v=>Oe (lD (TM P t m k v J) λ_=>XT P t m k v J)
  |_,_,_=>none
def atc(P:Program)(_call:Caller)(a:QP)(J:aA)(t:TypeId)(x:Operand):W4:=
 match P.underlying t,a x with
  |some .string,some (.s s)=>some (some (.p J.next 0),J.new (.iter s 0))
  |some (.map _ _),some .qK=>some (some (.p J.next 0),J.new (.iterM none))
  |some (.map _ _),some (.mp id)=>match J.get id with
   |some (.map _)=>some (some (.p J.next 0),J.new (.iterM (some id)))
   |_=>none
  |_,_=>none
def atd(_P:Program)(_call:Caller)(b:QP)(J:aA)(it:Operand):W4:=
 match b it with
  |some a=>uT (TP a J)
  |none=>none
def ate(_P:Program)(_call:Caller)(a:QP)(J:aA)(it:Operand):W4:=
 match a it with
  |some (.p id 0)=>match J.get id with
   |some (.iterM none)=>some (some (.fB [.b false]),J)
   |some (.iterM (some m))=>match J.get m with
    |some (.map [])=>some (some (.fB [.b false]),J)
    |_=>none
   |_=>none
  |_=>none
def atf(P:Program)(_call:Caller)(b:QP)(J:aA)(x:Operand)(t:TypeId)(ok:Bool):W4:=
 match b x with
  |some a=>fC J (TU P a t ok)
  |none=>none
def atg(_P:Program)(_call:Caller)(a:QP)(J:aA)(x:Operand)(k:Nat):W4:=
 match a x with
  |some (.fB l)=>fC J l[k]?
  |_=>none
def ath(P:Program)(call:Caller)(e:QP)(J:aA)(c:Call):W4:=
 match CS e c.args.toList with
  |some args=>
   match c.callee with
   |.builtin b=>bif adb b args then lD (KN P b c.argTypes args J) λ_=>IG P b c.argTypes args J else lD (IG P b c.argTypes args J) λ_=>KN P b c.argTypes args J
   |.value f=>match e f with
    |some (.fn f g a)=>uT (call f (g++args++a) J)
    |_=>none
   |.invoke r d=>match(e r).bind (TN P d J)with
    |some (f,x)=>uT (call f (x::args) J)
    |none=>none
  |none=>none
structure OpW where
 f:Program->Caller->(QP)->aA->Option (Q4×aA)
def opF(o:Op):OpW:=
 Op.casesOn (motive:=λ_=>OpW) o
  (λx=>⟨λP call d J=>agO P call d J x⟩)
  (λx=>⟨λP call d J=>agO P call d J x⟩)
  (λc a b=>⟨λP call d J=>asY P call d J c a b⟩)
  (λt=>⟨λP call d J=>as9 P call d J t⟩)
  (λt x=>⟨λP call d J=>ati P call d J t x⟩)
  (λt e=>⟨λP call d J=>atj P call d J t e⟩)
  (λt len e=>⟨λP call d J=>atl P call d J t len e⟩)
  (λt m k v=>⟨λP call d J=>agP P call d J t m k v⟩)
  (λt a=>⟨λP call d J=>atm P call d J t a⟩)
  (λt a x=>⟨λP call d J=>atn P call d J t a x⟩)
  (λ_=>⟨λ_P _call _ev _J=>none⟩)
  (λ_=>⟨λ_P _call _ev _J=>none⟩)
  (λx=>⟨λP call d J=>ato P call d J x⟩)
  (λh t x y _=>⟨λP call d J=>Z7 P call d J h t x y⟩)
  (λh _ x=>⟨λP call d J=>Z5 P call d J h x⟩)
  (λsrc i x=>⟨λP call d J=>asZ P call d J src i x⟩)
  (λ_ _=>⟨λ_P _call _ev _J=>none⟩)
  (λt x=>⟨λP call d J=>as1 P call d J t x⟩)
  (λfn first g=>⟨λP call d J=>match fn with|.func f=>as2 P call d J f first g|_=>none⟩)
  (λt r=>⟨λP call d J=>as3 P call d J t r⟩)
  (λ_ _=>⟨λ_P _call _ev _J=>none⟩)
  (λt l c=>⟨λP call d J=>as4 P call d J t l c⟩)
  (λt x lo hi p=>⟨λP call d J=>match p with|none=>as5 P call d J t x lo hi|some _=>none⟩)
  (λt x f=>⟨λP call d J=>as6 P call d J t x f⟩)
  (λt x f=>⟨λP call d J=>as7 P call d J t x f⟩)
  (λt x j=>⟨λP call d J=>as8 P call d J t x j⟩)
  (λt x j=>⟨λP call d J=>ata P call d J t x j⟩)
  (λt m k ok=>⟨λP call d J=>atb P call d J t m k ok⟩)
  (λt m k v=>⟨λP call d J=>agP P call d J t m k v⟩)
  (λ_ _ _=>⟨λ_P _call _ev _J=>none⟩)
  (λ_ _ _ _=>⟨λ_P _call _ev _J=>none⟩)
  (λt x=>⟨λP call d J=>atc P call d J t x⟩)
  (λn b=>⟨λP call d J=>bif b then atd P call d J n else ate P call d J n⟩)
  (λ_=>⟨λ_P _call _ev _J=>none⟩)
  (λx _ t ok=>⟨λP call d J=>atf P call d J x t ok⟩)
  (λx k=>⟨λP call d J=>atg P call d J x k⟩)
  (λc=>⟨λP call d J=>ath P call d J c⟩)
  (λ_=>⟨λ_P _call _ev _J=>none⟩)
  (λ_=>⟨λ_P _call _ev _J=>none⟩)
  (λ_=>⟨λ_P _call _ev _J=>none⟩)
  (λ_ _=>⟨λ_P _call _ev _J=>none⟩)
  (λ_ _ _=>⟨λ_P _call _ev _J=>none⟩)
  (λ_ _=>⟨λ_P _call _ev _J=>none⟩)
def AY(P:Program)(call:Caller)(o:Oper)(a:QP)(J:aA):W4:=(opF o.op).f P call a J
def atr(P:Program)(J:aA)(b:UnOp)(a:AV):fUn P J b a=match yC a with
 |some u=>fC J ((rE P (Op.unary b u)).bind (nH 4))
 |none=>fC J (OD b a):=by
 cases b<;>first|rfl|skip
 cases a<;>rfl
def Ei(P:Program)(call:Caller)(o:Oper)(c:QP)(J:aA):AY P call o c J=wM P call o c J:=by
 obtain⟨f,a,e,pos,d,guard⟩:=o;cases a with
 |binOp a t x y _=>
  show Z7 P call c J a t x y=_
  simp only[Z7,asW,wM]
 |unOp a _ x=>
  show Z5 P call c J a x=_
  simp only[Z5,atr,wM]
 |slice t x lo hi g=>cases g<;>rfl
 |makeFunc fn _ _=>cases fn<;>rfl
 |next h b=>cases b<;>rfl
 |_=>rfl
def KZ(o:Oper)(c:W5)(a:bG):YY:=
 match o.guard with
 |none=>some true
 |some (j,b)=>
  match c[j]? with
  |some q=>match q.dst with
   |some d=>match dB (a.t.get d)with
    |some (.b x)=>some (x==b)
    |some (.fB _)=>some false
    |_=>none
   |none=>none
  |none=>none
def YS(P:Program)(call:Caller)(b:W5)(i:Nat)(a:bG)(J:aA):Option (bG×aA):=
 match b[i]? with
 |none=>none
 |some o=>
  match KZ o b a with
  |none=>none
  |some false=>(a.put o.dst (some (.fB []))).map (·,J)
  |some true=>
   match AY P call o a.eval J with
   |none=>none
   |some (v,c)=>(a.put o.dst v).map (·,c)
def LX(P:Program)(call:Caller)(b:W5):Q2->bG->aA->Option (bG×aA)
 |[],a,J=>some (a,J)
 |i::rest,a,J=>
  match YS P call b i a J with
  |some (c,J')=>LX P call b rest c J'
  |none=>none
inductive fG where
 |normal
 |exit (id:Nat)
 |ret
abbrev Wb:=Option (fG×bG×aA)
def BU(P:Program)(J:aA)(a:bG):List ResultVar->Option Q3
 |[]=>some []
 |.tmp t::rs=>match a.t.get t,BU P J a rs with
  |some v,some r=>some (v::r)
  |_,_=>none
 |.cell t ty::rs=>match(a.t.get t).bind (xQ P ty J),BU P J a rs with
  |some v,some r=>some (v::r)
  |_,_=>none
def KQ:Q3->AV
 |[v]=>v
 |l=>.fB l
def Az:Q3->Nat->Tr AV->Tr AV
 |[],_,t=>t
 |v::vs,k,t=>Az vs (k+1) (t.set k (some v))
abbrev BK:=W5->bG->aA->Option (bG×aA)
abbrev yO:=FuncId->Option (Q3->aA->Option (AV×aA))
def Jb(P:Program)(d:yO)(run:Code->bG->aA->Option (fG×bG×aA)):Caller:=λf args J=>
 match d f with
 |some g=>g args J
 |none=>
  match P.funcs[f]? with
  |none=>none
  |some fn=>match fn.body with
   |none=>none
   |some c=>
    match run c {t:=Az args 0 .nil,n:=max args.length fn.ntmps,gn:=P.globals.size} J with
    |some (.normal,b,a)|some (.ret,b,a)=>(BU P a b fn.results.toList).map λl=>(KQ l,a)
    |_=>none
def vM(P:Program)(i:Caller->BK)(h:yO)(run:Code->bG->aA->Option (fG×bG×aA))(c:Code)(a:bG)(J:aA):Wb:=
 match c with
 |.skip=>some (.normal,a,J)
 |.region _ d false=>(LX P (Jb P h run) d (List.range d.size) a J).map λ(a,J)=>(.normal,a,J)
 |.region _ d true=>(i (Jb P h run) d a J).map λ(a,J)=>(.normal,a,J)
 |.seq x y=>
  match run x a J with
  |some (.normal,e,f)=>run y e f
  |r=>r
 |.cond x y z=>
  match dB (a.eval x)with
  |some (.b t)=>run (if t then y else z) a J
  |_=>none
 |.block id b=>
  match run b a J with
  |some (.exit g,e,f)=>if g=id then some (.normal,e,f)else some (.exit g,e,f)
  |r=>r
 |.loop b=>
  match run b a J with
  |some (.normal,e,f)=>run (.loop b) e f
  |r=>r
 |.exit id=>some (.exit id,a,J)
 |.ret=>some (.ret,a,J)
 |_=>none
structure Ah where
 f:Program->(Caller->BK)->yO->(Code->bG->aA->Option (fG×bG×aA))->bG->aA->Option (fG×bG×aA)
def anX:Ah:=⟨λ_ _ _ _ a J=>some (.normal,a,J)⟩
def anP(b:W5)(d:Bool):Ah:=bif d then⟨λP e c run a J=>(e (Jb P c run) b a J).map λ(a,J)=>(.normal,a,J)⟩
 else⟨λP _ c run a J=>(LX P (Jb P c run) b (List.range b.size) a J).map λ(a,J)=>(.normal,a,J)⟩
def anW(x y:Code):Ah:=⟨λ_ _ _ run a J=>match run x a J with
    |some (.normal,b,c)=>run y b c
    |r=>r⟩
def anM(x:Operand)(y z:Code):Ah:=⟨λ_ _ _ run a J=>match dB (a.eval x)with
    |some (.b t)=>run (if t then y else z) a J
    |_=>none⟩
def anL(id:Nat)(b:Code):Ah:=⟨λ_ _ _ run a J=>match run b a J with
    |some (.exit c,d,e)=>if c=id then some (.normal,d,e)else some (.exit c,d,e)
    |r=>r⟩
def anO(b:Code):Ah:=⟨λ_ _ _ run a J=>match run b a J with
    |some (.normal,c,d)=>run (.loop b) c d
    |r=>r⟩
def anN(id:Nat):Ah:=⟨λ_ _ _ _ a J=>some (.exit id,a,J)⟩
def anQ:Ah:=⟨λ_ _ _ _ a J=>some (.ret,a,J)⟩
def PX:Ah:=⟨λ_ _ _ _ _ _=>none⟩
def codeF(c:Code):Ah:=
 Code.casesOn (motive:=λ_=>Ah) c
  anX
  (λ_ a d=>anP a d)
  (λx y=>anW x y)
  (λx y z=>anM x y z)
  (λid b=>anL id b)
  (λb=>anO b)
  (λ_ _ _ _=>PX)
  (λid=>anN id)
  (λ_=>PX)
  (λ_=>PX)
  (λ_=>PX)
  anQ
  (λ_=>PX)
def codeF_eq(P:Program)(b:Caller->BK)(e:yO)(run:Code->bG->aA->Option (fG×bG×aA))(c:Code)(a:bG)(J:aA):(codeF c).f P b e run a J=vM P b e run c a J:=by
 cases c with
 |region id f d=>cases d<;>rfl
 |_=>rfl
def FV(P:Program)(b:Caller->BK)(d:yO)(n:Nat):Code->bG->aA->Option (fG×bG×aA):=
 Nat.rec (motive:=λ_=>Code->bG->aA->Option (fG×bG×aA)) (λ_ _ _=>none) (λ_ run c a J=>(codeF c).f P b d run a J) n
def aeH(P:Program)(b:Caller->BK)(d:yO)(c:Code)(a:bG)(J:aA):FV P b d 0 c a J=none:=rfl
def xO(P:Program)(b:Caller->BK)(d:yO)(n:Nat)(c:Code)(a:bG)(J:aA):FV P b d (n+1) c a J=vM P b d (FV P b d n) c a J:=codeF_eq P b d _ c a J
def aeG(P:Program)(b:Caller->BK)(a:yO)(n:Nat):Caller:=Jb P a (FV P b a n)
end
noncomputable section
variable[aH]
def LV{F:Env}:∀{l:Q3}{vs:Q6},aC F l vs↔l.length=vs.length/\∀(k:Nat) a x,l[k]? =some a->vs[k]? =some x->VR F a x
 |[],vs=>by
  simp only[aC];constructor
  ·rintro rfl;simp
  ·rintro⟨h,_⟩;cases vs with
   |nil=>rfl
   |cons _ _=>simp at h
 |a::l,vs=>by
  simp only[aC];constructor
  ·rintro⟨x,xs,rfl,h1,g⟩
   have e:=(LV (l:=l) (vs:=xs)).1 g;refine⟨by simp[e.1],?_⟩;intro k b y c d;cases k with
   |zero=>simp at c d;subst c;subst d;exact h1
   |succ k=>simp at c d;exact e.2 k b y c d
  ·rintro⟨f,h⟩
   cases vs with
   |nil=>simp at f
   |cons x xs=>refine⟨x,xs,rfl,h 0 a x (by simp) (by simp),(LV (l:=l) (vs:=xs)).2 ⟨by simpa using f,?_⟩⟩;intro k b y c d;exact h (k+1) b y (by simpa using c) (by simpa using d)
def aC.length{F:Env}{l:Q3}{vs:Q6}(h:aC F l vs):l.length=vs.length:=(LV.1 h).1
def aC.at{F:Env}{l:Q3}{vs:Q6}(h:aC F l vs){k:Nat}{a:AV}(b:l[k]? =some a):∃x,vs[k]? =some x/\VR F a x:=by
 have c:=LV.1 h;obtain⟨d,rfl⟩:=fM.1 b;have:k<vs.length:=by omega
 exact⟨vs[k],bT this,c.2 k _ _ b (bT this)⟩
def aC.of{F:Env}{l:Q3}{vs:Q6}(c:l.length=vs.length)(h:∀(k:Nat) a,l[k]? =some a->∃x,vs[k]? =some x/\VR F a x):aC F l vs:=
 LV.2 ⟨c,λk a x d e=>by obtain⟨y,b,f⟩:=h k a d;rw[e]at b;cases b;exact f⟩
def aC.append{F:Env}{l c:Q3}{vs b:Q6}(h:aC F l vs)(d:aC F c b):aC F (l++c) (vs++b):=by
 induction l generalizing vs with
 |nil=>simp only[aC]at h;subst h;simpa using d
 |cons a l e=>simp only[aC]at h;obtain⟨x,f,rfl,g,i⟩:=h;exact⟨x,f++b,rfl,g,e i⟩
def aC.take{F:Env}{l:Q3}{vs:Q6}(h:aC F l vs)(n:Nat):aC F (l.take n) (vs.take n):=by
 induction n generalizing l vs with
 |zero=>simp[aC]
 |succ n b=>cases l with
  |nil=>simp only[aC]at h;subst h;simp[aC]
  |cons a l=>simp only[aC]at h;obtain⟨x,c,rfl,d,e⟩:=h;exact⟨x,c.take n,by simp,d,b e⟩
def aC.drop{F:Env}{l:Q3}{vs:Q6}(h:aC F l vs)(n:Nat):aC F (l.drop n) (vs.drop n):=by
 induction n generalizing l vs with
 |zero=>simpa using h
 |succ n b=>cases l with
  |nil=>simp only[aC]at h;subst h;simp[aC]
  |cons a l=>simp only[aC]at h;obtain⟨x,d,rfl,e,c⟩:=h;simpa using b c
def aC.cons{F:Env}{a:AV}{l:Q3}{x:Value}{vs:Q6}(h:VR F a x)(b:aC F l vs):aC F (a::l) (x::vs):=⟨x,vs,rfl,h,b⟩
structure Env.le(F F':Env):Prop where
 pl:∀id q,F id=some q->F' id=some q
 ro:∀b o,F.ro b=some o->F'.ro b=some o
 gh:∀id,F.gh id=true->F'.gh id=true
def Env.le.refl(F:Env):F.le F:=⟨λ_ _ h=>h,λ_ _ h=>h,λ_ h=>h⟩
def Env.le.trans{a b c:Env}(h:a.le b)(d:b.le c):a.le c:=⟨λid q e=>d.pl id q (h.pl id q e),λb o f=>d.ro b o (h.ro b o f),λid e=>d.gh id (h.gh id e)⟩
def Env.has(F:Env)(id:Nat):Prop:=(∃q,F id=some q)\/F.gh id=true
def Env.has.mono{F F':Env}{id:Nat}(h:F.has id)(a:F.le F'):F'.has id:=h.elim (λ⟨q,b⟩=>.inl ⟨q,a.pl _ _ b⟩) λc=>.inr (a.gh _ c)
mutual
def GR.mono{ro ro':Qf}(h:∀b o,ro b=some o->ro' b=some o):∀(a:GV)(v:Value),GR ro a v->GR ro' a v
 |.b _,_,d=>by simpa only[GR]using d
 |.i _ _,_,d=>by simpa only[GR]using d
 |.s _,_,d=>by simpa only[GR]using d
 |.g l,_,d=>by simp only[GR]at d⊢;obtain⟨x,e,h1⟩:=d;exact⟨x,e,aS.mono h l x h1⟩
 |.l j,_,d=>by
  simp only[GR]at d⊢;rcases d with d|⟨k,g,c,i,m,e,n,h1,p,q⟩
  ·exact .inl d
  exact .inr ⟨k,g,c,i,m,e,n,aS.mono h j i h1,p,λr=>by obtain⟨s,f,t,u,w⟩:=q r;exact⟨s,f,t,h _ _ u,w⟩⟩
def aS.mono{ro ro':Qf}(h:∀b o,ro b=some o->ro' b=some o):∀(l:Q1)(vs:Q6),aS ro l vs->aS ro' l vs
 |[],_,c=>by simpa only[aS]using c
 |a::l,_,c=>by simp only[aS]at c⊢;obtain⟨x,xs,e,h1,d⟩:=c;exact⟨x,xs,e,GR.mono h a x h1,aS.mono h l xs d⟩
end
mutual
def VR.mono{F F':Env}(h:F.le F'):∀(a:AV)(v:Value),VR F a v->VR F' a v
 |.b _,_,b=>by simpa only[VR]using b
 |.i _ _,_,b=>by simpa only[VR]using b
 |.s _,_,b=>by simpa only[VR]using b
 |.jU,_,b=>by simpa only[VR]using b
 |.p _ _,_,b=>by simp only[VR]at b⊢;obtain⟨q,m,e⟩:=b;exact⟨q,h.pl _ _ m,e⟩
 |.gK,_,b=>by simpa only[VR]using b
 |.sl _ _ _ _,_,b=>by simp only[VR]at b⊢;obtain⟨q,m,e⟩:=b;exact⟨q,h.pl _ _ m,e⟩
 |.qK,_,b=>by simpa only[VR]using b
 |.mp _,_,b=>by simp only[VR]at b⊢;obtain⟨q,m,e⟩:=b;exact⟨q,h.pl _ _ m,e⟩
 |.zW,_,b=>by simpa only[VR]using b
 |.fn _ B o,_,b=>by simp only[VR]at b⊢;obtain⟨z,A,e,d,f⟩:=b;exact⟨z,A,e,aC.mono h B z d,aC.mono h o A f⟩
 |.uP,_,b=>by simpa only[VR]using b
 |.jq _ a,_,b=>by simp only[VR]at b⊢;obtain⟨x,e,d⟩:=b;exact⟨x,e,VR.mono h a x d⟩
 |.agg l,_,b=>by simp only[VR]at b⊢;obtain⟨x,e,d⟩:=b;exact⟨x,e,aC.mono h l x d⟩
 |.fB l,_,b=>by simp only[VR]at b⊢;obtain⟨x,e,d⟩:=b;exact⟨x,e,aC.mono h l x d⟩
 |.z _ _ _,_,b=>by simpa only[VR]using b
 |.ro l,_,b=>by
  simp only[VR]at b⊢;rcases b with b|⟨s,w,c,r,D,e,E,d,f,n⟩
  ·exact .inl b
  refine .inr ?_;exact⟨s,w,c,r,D,e,E,aC.mono h l r d,f,λy=>by obtain⟨o,j,t,u,G⟩:=n y;exact⟨o,j,t,h.ro _ _ u,G⟩⟩
 |.rp a _,_,b=>by simp only[VR]at b⊢;obtain⟨s,base,o,j,t,x,d,f,n⟩:=b;exact⟨s,base,o,j,t,x,h.ro _ _ d,VR.mono h a x f,n⟩
 |.nd _,_,b=>by simp only[VR]at b⊢;obtain⟨g,d,f,n⟩:=b;exact⟨g,d,f,GR.mono h.ro _ _ n⟩
 |.rx _ _,_,b=>by simp only[VR]at b⊢;obtain⟨g,s,base,o,j,t,x,d,f,n,u⟩:=b;exact⟨g,s,base,o,j,t,x,d,h.ro _ _ f,GR.mono h.ro _ _ n,u⟩
 |.sv _ _,_,b=>by
  simp only[VR]at b⊢;obtain⟨r,d,⟨q,m,f⟩|⟨H,f⟩⟩:=b
  ·exact⟨r,d,.inl ⟨q,h.pl _ _ m,f⟩⟩
  ·exact⟨r,d,.inr ⟨h.gh _ H,f⟩⟩
 |.pv _ _ _,_,b=>by simp only[VR]at b⊢;obtain⟨q,k,i,m,f⟩:=b;exact⟨q,k,i,h.pl _ _ m,f⟩
 |.pd _ _,_,b=>by simp only[VR]at b⊢;obtain⟨r,p,d,f,n⟩:=b;exact⟨r,p,d,f,λy=>by obtain⟨q,m,u⟩:=n y;exact⟨q,h.pl _ _ m,u⟩⟩
def aC.mono{F F':Env}(h:F.le F'):∀(l:Q3)(vs:Q6),aC F l vs->aC F' l vs
 |[],_,b=>by simpa only[aC]using b
 |a::l,_,b=>by simp only[aC]at b⊢;obtain⟨x,xs,e,h1,c⟩:=b;exact⟨x,xs,e,VR.mono h a x h1,aC.mono h l xs c⟩
end
def NQ{α β:Type}{f:α->Option β}:∀{l:List α}{r:List β},vX f l=some r->l.length=r.length/\∀(k:Nat) x,l[k]? =some x->∃y,r[k]? =some y/\f x=some y
 |[],r,h=>by simp[vX]at h;subst h;simp
 |x::xs,r,h=>by
  simp only[vX]at h;split at h
  ·cases h
  ·rename_i y d
   split at h
   ·cases h
   ·rename_i i b
    cases h;have c:=NQ b;refine⟨by simp[c.1],λk z a=>?_⟩;cases k with
    |zero=>simp at a;subst a;exact⟨y,by simp,d⟩
    |succ k=>simp at a;obtain⟨u,e,g⟩:=c.2 k z a;exact⟨u,by simpa using e,g⟩
def alX{F:Env}:∀(n:Nat)(a:AV)(v:Value),a.toVal n=some v->VR F a v:=by
 intro n;induction n with
 |zero=>intro a v h;simp[AV.toVal]at h
 |succ n f=>
  intro a v h;have b:∀(l:Q3)(e:Q6),vX (AV.toVal n) l=some e->aC F l e:=λl e g=>by have:=NQ g;exact aC.of this.1 λk a i=>by obtain⟨y,j,m⟩:=this.2 k a i;exact⟨y,j,f _ _ m⟩
  cases a<;>simp only[AV.toVal,bC,aY]at h<;>simp only[VR]<;>first|exact h.symm|(cases h;done)|skip
  case jq t a=>obtain⟨y,c,d⟩:=h;exact⟨_,d.symm,f _ _ c⟩
  case agg l=>obtain⟨y,c,d⟩:=h;exact⟨_,d.symm,b _ _ c⟩
  case fB l=>obtain⟨y,c,d⟩:=h;exact⟨_,d.symm,b _ _ c⟩
def alY{F:Env}:∀(n:Nat)(a:AV)(v x:Value),a.toVal n=some v->VR F a x->x=v:=by
 intro n;induction n with
 |zero=>intro a v x h;simp[AV.toVal]at h
 |succ n j=>
  intro a v x h e;have f:∀(l:Q3)(g i:Q6),vX (AV.toVal n) l=some g->aC F l i->i=g:=λl g i p m=>by
   have b:=NQ p;have d:=LV.1 m;apply Ip;intro k;by_cases o:k<l.length
   ·obtain⟨y,q,r⟩:=b.2 k _ (bT o);obtain⟨z,c,s⟩:=m.at (bT o);rw[q,c,j _ _ _ r s]
   ·rw[wG (by omega),wG (by omega)]
  cases a<;>simp only[AV.toVal,bC,aY]at h<;>simp only[VR]at e<;>first|exact e.trans h|(cases h;done)|skip
  case jq t a=>obtain⟨y,b,d⟩:=h;obtain⟨z,rfl,c⟩:=e;rw[<-d,j _ _ _ b c]
  case agg l=>obtain⟨y,b,d⟩:=h;obtain⟨z,rfl,c⟩:=e;rw[<-d,f _ _ _ b c]
  case fB l=>obtain⟨y,b,d⟩:=h;obtain⟨z,rfl,c⟩:=e;rw[<-d,f _ _ _ b c]
def EK{F:Env}:∀(n:Nat)(v:Value)(a:AV),nH n v=some a->VR F a v:=by
 intro n;induction n with
 |zero=>intro v a h;simp[nH]at h
 |succ n f=>
  intro v a h;have c:∀(e:Q6)(l:Q3),vX (nH n) e=some l->aC F l e:=λe l j=>by
   have b:=NQ j;refine aC.of b.1.symm λk a g=>?_;have d:k<e.length:=by have:=(fM.1 g).1;omega
   obtain⟨y,i,m⟩:=b.2 k _ (bT d);rw[g]at i;cases i;exact⟨_,bT d,f _ _ m⟩
  unfold nH at h;split at h;all_goals try (cases h;done)
  all_goals try (cases h;simp only[VR];done)
  ·simp only[bC]at h;obtain⟨y,b,rfl⟩:=h;simp only[VR];exact⟨_,rfl,f _ _ b⟩
  ·simp only[bC]at h;obtain⟨y,b,rfl⟩:=h;simp only[VR];exact⟨_,rfl,c _ _ b⟩
  ·simp only[bC]at h;obtain⟨y,b,rfl⟩:=h;simp only[VR];exact⟨_,rfl,c _ _ b⟩
def Dk{α:Type}{P:Program}{s:Sem α}{a:α}(h:rE P s=some a)(w:World):s.run P w=.ok a w:=by
 induction s with
 |pure x=>simp[rE]at h;subst h;rfl
 |program k b=>exact b P h
 |mark m k b=>exact b h
 |_=>simp[rE]at h
omit [aH] in
def Tr.ahi{α:Type}:∀p:List Bool,(Tr.nil:Tr α).vP p=none
 |[]=>rfl
 |b::p=>by
  show Tr.vP p (bif b then Tr.nil else Tr.nil)=none
  cases b<;>exact Tr.ahi p
omit [aH] in
@[simp] theorem Tr.get_nil{α:Type}(m:Nat):(Tr.nil:Tr α).get m=none:=Tr.ahi _
omit [aH] in
def Tr.aal{α:Type}(x:Option α):∀(p q:List Bool)(t:Tr α),(t.KJ x p).vP q=if q=p then x else t.vP q
 |[],[],t=>rfl
 |[],c::q,t=>by rw[ah (by simp)];rfl
 |b::p,[],t=>by rw[ah (by simp)];cases b<;>rfl
 |b::p,c::q,t=>by
  have h1:(t.KJ x (b::p))=bif b then .nd t.val (t.EF.KJ x p) t.ES else .nd t.val t.EF (t.ES.KJ x p):=rfl
  have a:∀u:Tr α,u.vP (c::q)=(bif c then u.EF else u.ES).vP q:=λ_=>rfl;rw[h1,a,a];cases b<;>cases c
  ·show(t.ES.KJ x p).vP q=_
   rw[Tr.aal x p q];simp
  ·show t.EF.vP q=_
   simp
  ·show t.ES.vP q=_
   simp
  ·show(t.EF.KJ x p).vP q=_
   rw[Tr.aal x p q];simp
def Ya:List Bool->Nat
 |[]=>0
 |b::p=>2*Ya p+(if b then 1 else 2)
omit [aH] in
def al8:∀(f n:Nat),n<2^f->Ya (Rk f n)=n
 |0,n,h=>by
  have:n=0:=by simpa using h
  subst this;rfl
 |f+1,n,h=>by
  have c:Rk (f+1) n=bif Nat.beq n 0 then[]else Nat.beq ((n-1)%2) 0::Rk f ((n-1)/2):=rfl
  rw[c];by_cases b:n=0
  ·subst b;rfl
  ·have d:Nat.beq n 0=false:=by cases n with|zero=>exact absurd rfl b|succ n=>rfl
   rw[d];show 2*Ya (Rk f ((n-1)/2))+_=n
   have e:2^(f+1)=2*2^f:=by rw[LK,Iy]
   rw[al8 f _ (by omega)];rcases aer (n-1)with a|a
   ·rw[a];show 2*((n-1)/2)+1=n;omega
   ·rw[a];show 2*((n-1)/2)+2=n;omega
omit [aH] in
def al7(n:Nat):Ya (path n)=n:=al8 _ _ Nat.lt_log2_self
omit [aH] in
def ayZ{n m:Nat}:path n=path m↔n=m:=⟨λh=>by rw[<-al7 n,h,al7],λh=>by rw[h]⟩
omit [aH] in
def Tr.vS{α:Type}(t:Tr α)(n m:Nat)(x:Option α):(t.set n x).get m=if m=n then x else t.get m:=by
 unfold Tr.get Tr.set;rw[Tr.aal];by_cases h:m=n
 ·subst h;simp
 ·rw[ah h,ah (λe=>h (ayZ.1 e))]
omit [aH] in
def aA.get_put(J:aA)(id a:Nat)(o:bI):(J.put id o).get a=if a=id then some o else J.get a:=Tr.vS _ _ _ _
omit [aH] in
def aA.zO(J:aA)(id a:Nat):(J.kill id).get a=if a=id then none else J.get a:=Tr.vS _ _ _ _
omit [aH] in
def aA.qE(J:aA)(a:Nat)(o:bI):(J.new o).get a=if a=J.next then some o else J.get a:=Tr.vS _ _ _ _
def bI.own:bI->Bool
 |.cells _ _ rw _=>rw
 |_=>true
structure uy(P:Program)(F:Env)(q:Place)(c:Q3)(et:TypeId)(rw opn:Bool)(cs:QQ)(elem:TypeId)(fr:Nat×Nat):Prop where
 fits:q.ba+q.sz<=cs.size
 le:c.length<=q.sz
 shut:opn=false->c.length=q.sz
 cell:∀(k:Nat) a,c[k]? =some a->∃x,cs[q.ba+k]? =some x/\VR F a x
 free:rw=true->∀k,k<q.sz->¬(fr.1<=q.ba+k/\q.ba+k<fr.2)
 whole:et≠0->elem=et/\q.ba+q.sz=cs.size/\(opn=false->q.ba=0)
 room:opn=true->et≠0/\0<q.es/\sizeT P et=some q.es
def Bg(b:Wf)(a:GV):Prop:=match b with
 |some k=>∃n,a=.i k n
 |none=>∃s,a=.s s
def OI(sz:QR)(b:GV):Prop:=match sz with
 |none=>b.scalar=true
 |some n=>∃a,b=.g a/\a.length=n/\a.all GV.scalar=true
def uz(ro:Qf)(d:Wf)(sz:QR):Q1->List MapEntry->Prop
 |[],c=>c=[]
 |x::xs,c=>∃a b m rest,x=.g [a,b]/\c=m::rest/\Bg d a/\OI sz b/\GR ro a m.key/\GR ro b m.val/\uz ro d sz xs rest
def uz.mono{ro ro':Qf}(h:∀b o,ro b=some o->ro' b=some o){d:Wf}{sz:QR}:∀{xs:Q1}{c:List MapEntry},uz ro d sz xs c->uz ro' d sz xs c
 |[],c,r=>r
 |x::xs,c,r=>by obtain⟨a,b,m,rest,e,f,h1,g,i,j,h5⟩:=r;exact⟨a,b,m,rest,e,f,h1,g,GR.mono h _ _ i,GR.mono h _ _ j,uz.mono h h5⟩
def OR(P:Program)(F:Env)(q:Place)(w:World):bI->Prop
 |.cells c et rw opn=>∃cs elem h,w.heap[q.bl]? =some (.cells cs elem h)/\uy P F q c et rw opn cs elem h
 |.iter s pos=>w.heap[q.bl]? =some (.stringIter ⟨⟨s⟩⟩ pos)/\q.ba=0
 |.map es=>∃d a,w.heap[q.bl]? =some (.map d a)/\d.size=es.length/\∀(k:Nat) e,es[k]? =some e->∃m,d[k]? =some m/\VR F e.1 m.key/\VR F e.2 m.val
 |.vec n et f=>∃xs cs elem h i,aH.val n=some (.l xs)/\w.heap[q.bl]? =some (.cells cs elem h)/\aS F.ro xs i/\(∀y∈i,y.cells.size=q.es)/\Gi cs q.ba (dJ i)/\xs.length*q.es<=q.sz/\uy P F q [] et true true cs elem h/\(∀x∈xs,x.cells.all GV.scalar=true)/\(f=true->q.es<=q.sz)
 |.smap n j sz=>∃xs d a,aH.val n=some (.l xs)/\w.heap[q.bl]? =some (.map d a)/\uz F.ro j sz xs d.toList
 |.pmap es=>(es.map (·.1)).Nodup/\∃d a g,w.heap[q.bl]? =some (.map d a)/\d.toList.Perm g/\g.length=es.length/\∀(k:Nat) e,es[k]? =some e->∃m,g[k]? =some m/\m.key=.string ⟨⟨e.1⟩⟩/\VR F e.2 m.val
 |.iterM none=>q.ba=0/\∃b last,w.heap[q.bl]? =some (.mapIter none b #[] last)
 |.iterM (some m)=>q.ba=0/\∃b last q',F m=some q'/\w.heap[q.bl]? =some (.mapIter (some q'.bl) b #[] last)
def uy.mono{P:Program}{F F':Env}(h:F.le F'){q:Place}{c:Q3}{et:TypeId}{rw opn:Bool}{cs:QQ}{elem:TypeId}{b:Nat×Nat}
 (r:uy P F q c et rw opn cs elem b):uy P F' q c et rw opn cs elem b:=
 {r with cell:=λk a d=>by obtain⟨x,e,f⟩:=r.cell k a d;exact⟨x,e,VR.mono h _ _ f⟩}
def OR.mono{P:Program}{F F':Env}(h:F.le F'){q:Place}{w:World}{o:bI}(r:OR P F q w o):OR P F' q w o:=by
 cases o with
 |cells c B rw D=>obtain⟨p,b,t,d,g⟩:=r;exact⟨p,b,t,d,g.mono h⟩
 |iter s pos=>exact r
 |map es=>obtain⟨l,a,d,g,i⟩:=r;refine⟨l,a,d,g,λk e u=>?_⟩;obtain⟨m,v,x,y⟩:=i k e u;exact⟨m,v,VR.mono h _ _ x,VR.mono h _ _ y⟩
 |iterM m=>
  cases m with
  |none=>exact r
  |some m=>obtain⟨E,j,last,G,d,g⟩:=r;exact⟨E,j,last,G,h.pl _ _ d,g⟩
 |smap n R S=>obtain⟨z,l,a,d,g,i⟩:=r;exact⟨z,l,a,d,g,i.mono h.ro⟩
 |pmap es=>obtain⟨H,l,a,A,d,I,g,i⟩:=r;refine⟨H,l,a,A,d,I,g,λk e u=>?_⟩;obtain⟨m,v,x,y⟩:=i k e u;exact⟨m,v,x,VR.mono h _ _ y⟩
 |vec n B f=>obtain⟨z,p,b,t,J,d,g,i,L,M,N,O,Q⟩:=r;exact⟨z,p,b,t,J,d,g,aS.mono h.ro _ _ i,L,M,N,O.mono h,Q⟩
def OR.heap{P:Program}{F:Env}{q:Place}{w w':World}{o:bI}(h:w'.heap[q.bl]? =w.heap[q.bl]?)(r:OR P F q w o):OR P F q w' o:=by
 cases o with
 |iterM m=>cases m<;>simp only[OR]at r⊢<;>rw[h]<;>exact r
 |_=>simp only[OR]at r⊢;rw[h];exact r
def TB(a:AV)(x:Value):Prop:=a.toVal 4=some x\/∃k lo hi m,a=.z k lo hi/\x=.int k m/\lo<=m/\m<=hi
def YJ(c:Q3)(cs:QQ):Prop:=(∀(k:Nat) a,c[k]? =some a->∃x,cs[k]? =some x/\TB a x)/\(c≠[]->cs.size=c.length)/\(c=[]->∃t q,cs[0]? =some (.iface t q))
def TB.vr{F:Env}{a:AV}{x:Value}(h:TB a x):VR F a x:=by
 rcases h with h|⟨k,lo,hi,m,rfl,rfl,b,c⟩
 ·exact alX 4 a x h
 ·simp only[VR];exact⟨m,b,c,rfl⟩
def FU(F:Env)(g:Nat)(c:Q3):Prop:=∃b a d,F.ro g=some (.cells b a d)/\c.length<=b.size/\YJ c b
def FU.mono{F F':Env}{g:Nat}{c:Q3}(h:FU F g c)(b:F.le F'):FU F' g c:=by obtain⟨d,a,e,f,i⟩:=h;exact⟨d,a,e,b.ro _ _ f,i⟩
def Live(P:Program)(F:Env)(w:World)(id:Nat)(o:bI):Prop:=(∃q,F id=some q/\OR P F q w o)\/(F.gh id=true/\∃n a f,o=.vec n a f/\aH.val n=some (.l []))
def Live.mono{P:Program}{F F':Env}(h:F.le F'){w:World}{id:Nat}{o:bI}(r:Live P F w id o):Live P F' w id o:=by
 rcases r with⟨q,a,b⟩|⟨c,d⟩
 ·exact .inl ⟨q,h.pl _ _ a,b.mono h⟩
 ·exact .inr ⟨h.gh _ c,d⟩
def Live.heap{P:Program}{F:Env}{w w':World}{id:Nat}{o:bI}(r:Live P F w id o)(h:∀q,F id=some q->OR P F q w o->w'.heap[q.bl]? =w.heap[q.bl]?):Live P F w' id o:=by
 rcases r with⟨q,a,b⟩|c
 ·exact .inl ⟨q,a,OR.heap (h q a b) b⟩
 ·exact .inr c
structure SR(P:Program)(F:Env)(J:aA)(w:World):Prop where
 nS:∀g,g<=P.globals.size->∃sz es,F g=some ⟨g,0,sz,es⟩
 dom:∀id q,F id=some q->id<J.next
 live:∀id o,J.get id=some o->Live P F w id o
 kK:∀id,F.gh id=true->F id=none/\id<J.next
 sep:∀id o id' o' q q',J.get id=some o->o.own=true->J.get id'=some o'->id≠id'->F id=some q->F id'=some q'->q.bl≠q'.bl
 jl:∀b o,F.ro b=some o->w.heap[b]? =some o
 lV:∀id o q,J.get id=some o->o.own=true->F id=some q->F.ro q.bl=none
 tabs:∀p∈aH.tabs,FU F p.1 p.2
def bI.awm:bI->Bool
 |.vec _ _ _=>true
 |_=>false
def SR.obj{P:Program}{F:Env}{J:aA}{w:World}(h:SR P F J w):∀id o,J.get id=some o->o.awm=false->∃q,F id=some q/\OR P F q w o:=by
 intro id o a b;rcases h.live id o a with c|⟨_,n,d,f,rfl,_⟩
 ·exact c
 ·cases b
def SR.at{P:Program}{F:Env}{J:aA}{w:World}(h:SR P F J w){id:Nat}{o:bI}{q:Place}(c:J.get id=some o)(b:F id=some q):OR P F q w o:=by
 rcases h.live id o c with⟨f,a,d⟩|⟨e,_⟩
 ·rw[b]at a;cases a;exact d
 ·rw[(h.kK id e).1]at b;cases b
structure St(P:Program)(F:Env)(J:aA)(w:World)(F':Env)(J':aA)(w':World):Prop where
 ext:F.le F'
 rel:SR P F' J' w'
 size:w.heap.size<=w'.heap.size
 keep:∀bl,bl<w.heap.size->(∀id o q,J.get id=some o->o.own=true->J.lock<=id->F id=some q->q.bl≠bl)->w'.heap[bl]? =w.heap[bl]?
 own:∀id o q,J'.get id=some o->o.own=true->J.lock<=id->F' id=some q->w.heap.size<=q.bl\/∃eG o0 q0,J.get eG=some o0/\o0.own=true/\J.lock<=eG/\F eG=some q0/\q0.bl=q.bl
 os:w'.os=w.os
 tape:w'.tape=w.tape
 output:w'.output=w.output
 lock:J'.lock=J.lock
 next:J.next<=J'.next
 new:∀id,F'.has id->F.has id\/(J.next<=id/\id<J'.next)
 rF:∀b,F'.ro b≠none->F.ro b≠none\/w.heap.size<=b\/∃eG o0 q0,J.get eG=some o0/\o0.own=true/\J.lock<=eG/\F eG=some q0/\q0.bl=b
def St.refl{P:Program}{F:Env}{J:aA}{w:World}(h:SR P F J w):St P F J w F J w:=
 ⟨Env.le.refl _,h,dD _,λ_ _ _=>rfl,λid o q a b c d=>.inr ⟨id,o,q,a,b,c,d,rfl⟩,rfl,rfl,rfl,rfl,dD _,λ_ h=>.inl h,λ_ h=>.inl h⟩
def St.trans{P:Program}{F F1 x:Env}{J y z:aA}{w w1 A:World}(h:St P F J w F1 y w1)(k:St P F1 y w1 x z A):St P F J w x z A:=by
 refine⟨h.ext.trans k.ext,k.rel,kF h.size k.size,?_,?_,k.os.trans h.os,k.tape.trans h.tape,k.output.trans h.output,k.lock.trans h.lock,kF h.next k.next,?_,?_⟩;rotate_right
 ·intro b E;rcases k.rF b E with h1|h1|⟨i,o0,j,p,r,s,d1,t⟩
  ·exact h.rF b h1
  ·exact .inr (.inl (kF h.size h1))
  ·rcases h.own i o0 j p r (h.lock▸s) d1 with g|⟨u,G,H,I,L,M,d2,N⟩
   ·right;left;omega
   ·exact .inr (.inr ⟨u,G,H,I,L,M,d2,N.trans t⟩)
 rotate_right
 ·intro id O;rcases k.new id O with h1|⟨h1,g⟩
  ·rcases h.new id h1 with f|⟨f,l⟩
   ·exact .inl f
   ·exact .inr ⟨f,yM l k.next⟩
  ·exact .inr ⟨Nat.le_trans h.next h1,g⟩
 ·intro B m n;rw[k.keep B (yM m h.size) ?_,h.keep B m n];intro id o q h1 g f l;rcases h.own id o q h1 g (h.lock▸f) l with D|⟨i,o0,j,a,b,c,d,e⟩
  ·omega
  ·rw[<-e];exact n i o0 j a b c d
 ·intro id o q h1 g f l;rcases k.own id o q h1 g (by rw[h.lock];exact f) l with D|⟨i,o0,j,a,b,c,d,e⟩
  ·exact .inl (kF h.size D)
  ·rcases h.own i o0 j a b (h.lock▸c) d with R|⟨v,o1,Q,p,r,s,d1,t⟩
   ·left;omega
   ·exact .inr ⟨v,o1,Q,p,r,s,d1,t.trans e⟩
def SR.hasLt{P:Program}{F:Env}{J:aA}{w:World}(h:SR P F J w){id:Nat}(a:F.has id):id<J.next:=a.elim (λ⟨q,b⟩=>h.dom id q b) λc=>(h.kK id c).2
def SR.Qs{P:Program}{F:Env}{J:aA}{w:World}(h:SR P F J w){id:Nat}{o:bI}(a:J.get id=some o):F.has id:=(h.live id o a).elim (λ⟨q,b,_⟩=>.inl ⟨q,b⟩) λ⟨c,_⟩=>.inr c
def St.aya{P:Program}{F F':Env}{J J':aA}{w w':World}(h:St P F J w F' J' w'){id:Nat}{q:Place}(a:F' id=some q):F id=some q\/(J.next<=id/\id<J'.next):=by
 rcases h.new id (.inl ⟨q,a⟩)with(⟨p,b⟩|c)|d
 ·have:=h.ext.pl _ _ b;rw[a]at this;cases this;exact .inl b
 ·have:=(h.rel.kK id (h.ext.gh _ c)).1;rw[a]at this;cases this
 ·exact .inr d
def SR.drew{P:Program}{F:Env}{J:aA}{w:World}(h:SR P F J w):SR P F J {w with drawn:=w.drawn+1}:=
 ⟨h.nS,h.dom,λid o a=>(h.live id o a).heap (w:=w) (λ_ _ _=>rfl),h.kK,h.sep,h.jl,h.lV,h.tabs⟩
def St.drew{P:Program}{F:Env}{J:aA}{w:World}(h:SR P F J w):St P F J w F J {w with drawn:=w.drawn+1}:=
 ⟨Env.le.refl _,h.drew,dD _,λ_ _ _=>rfl,λid o q a b c d=>.inr ⟨id,o,q,a,b,c,d,rfl⟩,rfl,rfl,rfl,rfl,dD _,λ_ h=>.inl h,λ_ h=>.inl h⟩
def rX(bl off n:Nat):(⟨bl,off,none⟩:Addr).add n=⟨bl,off+n,none⟩:=by
 unfold Addr.add;split
 ·next h=>simp[h]
 ·rfl
def PZ{w:World}{bl off:Nat}{cs:QQ}{elem:TypeId}{a:Nat×Nat}(h:w.heap[bl]? =some (.cells cs elem a)):
 w.cell? ⟨bl,off,none⟩=cs[off]?:=by
 simp[World.cell?,h]
def ag7{w:World}{bl off:Nat}{cs:QQ}{elem:TypeId}{a:Nat×Nat}(h:w.heap[bl]? =some (.cells cs elem a)):
 w.frozen? ⟨bl,off,none⟩=(decide (a.1<=off)&&decide (off<a.2)):=by
 simp[World.frozen?,h]
def run_loadCellsFrom{P:Program}{w:World}{bl off:Nat}{cs:QQ}{elem:TypeId}{c:Nat×Nat}(h:w.heap[bl]? =some (.cells cs elem c)):
 ∀(n i:Nat)(a:QQ),off+i+n<=cs.size->
  (loadCellsFrom ⟨bl,off,none⟩ i n a).run P w=.ok (a++(cs.toList.drop (off+i)).take n) w:=by
 intro n;induction n with
 |zero=>intro i a _;simp[loadCellsFrom]
 |succ n d=>
  intro i a e;have b:off+i<cs.size:=by omega
  have f:w.cell? ⟨bl,off+i,none⟩=some cs[off+i]:=by rw[PZ h];simp[b]
  simp only[loadCellsFrom,aV,rX];have g:(load ⟨bl,off+i,none⟩).run P w=.ok cs[off+i] w:=by simp[load,Sem.run,f]
  rw[g];simp only[aU];rw[d (i+1) _ (by omega)];congr 1;have:cs.toList.drop (off+i)=cs[off+i]::cs.toList.drop (off+(i+1)):=by rw[iC (by simpa using b)];simp[jL]
  rw[this];simp
def run_loadCells{P:Program}{w:World}{bl off n:Nat}{cs:QQ}{elem:TypeId}{b:Nat×Nat}(h:w.heap[bl]? =some (.cells cs elem b))(a:off+n<=cs.size):
 (loadCells ⟨bl,off,none⟩ n).run P w=.ok ⟨(cs.toList.drop off).take n⟩ w:=by
 unfold loadCells;rw[run_loadCellsFrom h n 0 #[] (by simpa using a)];simp
def akO{P:Program}{w:World}{bl off:Nat}{cs:QQ}{elem:TypeId}{a:Nat×Nat}{x:Value}(h:w.heap[bl]? =some (.cells cs elem a))(b:cs[off]? =some x):
 (load ⟨bl,off,none⟩).run P w=.ok x w:=by
 have c:w.cell? ⟨bl,off,none⟩=some x:=by rw[PZ h,b]
 simp[load,Sem.run,c]
def setFrom(cs:QQ)(off:Nat):Q6->Array Value
 |[]=>cs
 |v::vs=>setFrom (cs.setIfInBounds off v) (off+1) vs
def Oj:∀(vs:Q6)(cs:QQ)(off:Nat),(setFrom cs off vs).size=cs.size
 |[],_,_=>rfl
 |v::vs,cs,off=>by rw[setFrom,Oj vs];simp
def Xx:∀(vs:Q6)(cs:QQ)(off k:Nat),off+vs.length<=cs.size->
 (setFrom cs off vs)[k]? =if off<=k/\k<off+vs.length then vs[k-off]? else cs[k]?
 |[],cs,off,k,h=>by simp[setFrom];omega
 |v::vs,cs,off,k,h=>by
  simp only[gV]at h;rw[setFrom,Xx vs _ _ _ (by simp;omega)];by_cases h1:off+1<=k/\k<off+1+vs.length
  ·rw[aj h1,aj ⟨by omega,by simp;omega⟩];have:k-off=(k-(off+1))+1:=by omega
   rw[this];simp
  ·rw[ah h1];by_cases a:k=off
   ·subst a;rw[aj ⟨Nat.le_refl _,by simp⟩];have b:k<cs.size:=by omega
    simp[b]
   ·rw[ah (by simp only[gV];omega)];rw[DR,ah (λe=>a e.symm)]
def oI(w:World)(bl:Nat)(o:Obj):World:={w with heap:=w.heap.setIfInBounds bl o}
def Dq{w:World}{bl:Nat}{o o':Obj}(h:w.heap[bl]? =some o):(oI w bl o').heap[bl]? =some o':=by have:bl<w.heap.size:=(rG.1 h).1;simp[oI,this]
def EW{w:World}{bl k:Nat}{o':Obj}(h:k≠bl):(oI w bl o').heap[k]? =w.heap[k]?:=by simp only[oI];rw[DR,ah (λe=>h e.symm)]
def EX{w:World}{bl:Nat}{o':Obj}:(oI w bl o').heap.size=w.heap.size:=by simp[oI]
def aDx{w:World}{bl:Nat}{o o':Obj}:oI (oI w bl o) bl o'=oI w bl o':=by simp only[oI];congr 1;apply SG;intro i;simp only[DR,Array.size_setIfInBounds];split<;>rfl
def setCell_eq{w:World}{bl off:Nat}{cs:QQ}{elem:TypeId}{a:Nat×Nat}(h:w.heap[bl]? =some (.cells cs elem a))(v:Value):
 w.setCell ⟨bl,off,none⟩ v=oI w bl (.cells (cs.setIfInBounds off v) elem a):=by
 unfold World.setCell oI;congr 1;apply SG;intro i;rw[Lc,DR];by_cases e:bl=i
 ·subst e;have:bl<w.heap.size:=(rG.1 h).1;rw[aj rfl,aj rfl,aj this,h];rfl
 ·rw[ah e,ah e]
def aDw{w:World}{bl:Nat}{o:Obj}(h:w.heap[bl]? =some o):oI w bl o=w:=by
 unfold oI;have:w.heap.setIfInBounds bl o=w.heap:=by
  apply SG;intro i;rw[DR];by_cases e:bl=i
  ·subst e;have:bl<w.heap.size:=(rG.1 h).1;rw[aj rfl,aj this,h]
  ·rw[ah e]
 rw[this]
def pX:Value->Bool
 |.agg _|.tuple _=>false
 |_=>true
def acT{P:Program}:∀(vs:Q6)(w:World)(bl off i:Nat)(cs:QQ)(elem:TypeId)(a:Nat×Nat),
 w.heap[bl]? =some (.cells cs elem a)->off+i+vs.length<=cs.size->(∀v∈vs,pX v=true)->
 (∀k,off+i<=k->k<off+i+vs.length->¬(a.1<=k/\k<a.2))->
 (storeCells ⟨bl,off,none⟩ vs i).run P w=.ok () (oI w bl (.cells (setFrom cs (off+i) vs) elem a))
 |[],w,bl,off,i,cs,elem,a,h,_,_,_=>by simp[storeCells,setFrom,aDw h]
 |v::vs,w,bl,off,i,cs,elem,a,h,d,b,c=>by
  simp only[gV]at d c;have e:off+i<cs.size:=by omega
  have f:w.cell? ⟨bl,off+i,none⟩=some cs[off+i]:=by rw[PZ h];simp[e]
  have g:w.frozen? ⟨bl,off+i,none⟩=false:=by rw[ag7 h];have:=c (off+i) (by omega) (by omega);simpa using this
  have j:=b v (by simp);have l:(store ⟨bl,off+i,none⟩ v).run P w=.ok () (oI w bl (.cells (cs.setIfInBounds (off+i) v) elem a)):=by rw[<-setCell_eq h];cases v<;>simp[pX]at j<;>simp[store,Sem.run,f,g]
  simp only[storeCells,aV,rX,l,aU];rw[acT vs _ bl off (i+1) (cs.setIfInBounds (off+i) v) elem a (Dq h) (by simp;omega) (λx m=>b x (by simp[m])) (λk n o=>c k (by omega) (by omega))];rw[aDx];rfl
def Env.put(F:Env)(id:Nat)(q:Place):Env:=⟨λk=>if k=id then some q else F k,F.ro,F.gh⟩
def Env.Ht{P:Program}{F:Env}{J:aA}{w:World}(h:SR P F J w)(q:Place):F.le (F.put J.next q):=by refine⟨λid p a=>?_,λ_ _ h=>h,λ_ h=>h⟩;have:=h.dom id p a;simp only[Env.put];rw[ah (by omega)];exact a
def wY{w:World}{k:Nat}{o:Obj}(h:w.heap[k]? =some o):k<w.heap.size:=(rG.1 h).1
def OR.lt{P:Program}{F:Env}{q:Place}{w:World}{o:bI}(h:OR P F q w o):q.bl<w.heap.size:=by
 cases o with
 |cells c e rw g=>obtain⟨i,d,j,a,_⟩:=h;exact wY a
 |iter s pos=>exact wY h.1
 |map es=>obtain⟨k,b,a,_⟩:=h;exact wY a
 |iterM m=>cases m with
  |none=>obtain⟨_,_,_,a⟩:=h;exact wY a
  |some m=>obtain⟨_,_,_,_,_,a⟩:=h;exact wY a
 |vec n e f=>obtain⟨_,_,_,_,_,_,a,_⟩:=h;exact wY a
 |smap n l p=>obtain⟨_,_,_,_,a,_⟩:=h;exact wY a
 |pmap es=>obtain⟨_,_,_,_,a,_⟩:=h;exact wY a
def Env.acF{P:Program}{F:Env}{J:aA}{w:World}(h:SR P F J w)(q:Place){n:Nat}(c:J.next<n):∀id,(F.put J.next q).gh id=true->(F.put J.next q) id=none/\id<n:=by intro id a;obtain⟨b,d⟩:=h.kK id a;refine⟨?_,by omega⟩;simp only[Env.put];rw[ah (by omega)];exact b
def St.alloc{P:Program}{F:Env}{J:aA}{w:World}(h:SR P F J w)(o:bI)(u:Obj)(q:Place)(O:q.bl=w.heap.size)
 (G:OR P (F.put J.next q) q {w with heap:=w.heap.push u} o):St P F J w (F.put J.next q) (J.new o) {w with heap:=w.heap.push u}:=by
 have c:=Env.Ht h q;have i:∀k,k<w.heap.size->(w.heap.push u)[k]? =w.heap[k]?:=λk Q=>by rw[Ij,ah (by omega)]
 have D:∀b o,F.ro b=some o->b<w.heap.size:=λb o t=>wY (h.jl b o t);refine⟨c,⟨?_,?_,?_,Env.acF h q (DW _),?_,λb o t=>?_,λid o1 p v H r=>?_,λp d=>(h.tabs p d).mono c⟩,by simp,λbl x _=>i bl x,?_,rfl,rfl,rfl,rfl,Nat.le_succ _,?_,λ_ h=>.inl h⟩;rotate_right
 ·rintro id (⟨p,d⟩|y)
  ·simp only[Env.put]at d;split at d
   ·next e=>subst e;exact .inr ⟨Nat.le_refl _,DW _⟩
   ·exact .inl (.inl ⟨p,d⟩)
  ·exact .inl (.inr y)
 ·intro g y;obtain⟨I,es,a⟩:=h.nS g y;exact⟨I,es,c.pl _ _ a⟩
 ·intro id p d;simp only[Env.put]at d;show id<J.next+1
  split at d
  ·omega
  ·have:=h.dom id p d;omega
 ·intro id L f;rw[aA.qE]at f;split at f
  ·next e=>cases f;subst e;exact .inl ⟨q,by simp[Env.put],G⟩
  ·exact((h.live id L f).heap (w:=w) (λp _ M=>i _ M.lt)).mono c
 ·intro id o1 z E p N a A n j l m;rw[aA.qE]at a n;simp only[Env.put]at l m;split at a<;>split at n
  ·omega
  ·next e s=>
   rw[aj e]at l;rw[ah s]at m;cases l;have:=(h.at n m).lt;omega
  ·next e s=>
   rw[ah e]at l;rw[aj s]at m;cases m;have:=(h.at a l).lt;omega
  ·next e s=>
   rw[ah e]at l;rw[ah s]at m;exact h.sep id o1 z E p N a A n j l m
 ·exact(i b (D b o t)).trans (h.jl b o t)
 ·rw[aA.qE]at v;simp only[Env.put]at r⊢;split at v
  ·next e=>
   rw[aj e]at r;cases r;cases B:F.ro q.bl with
   |none=>rfl
   |some E=>have:=D _ _ B;omega
  ·next e=>rw[ah e]at r;exact h.lV id o1 p v H r
 ·intro id o1 p a A n j;rw[aA.qE]at a;simp only[Env.put]at j;split at a
  ·next e=>rw[aj e]at j;cases j;left;omega
  ·next e=>rw[ah e]at j;exact .inr ⟨id,o1,p,a,A,n,j,rfl⟩
def St.write{P:Program}{F:Env}{J:aA}{w w':World}(h:SR P F J w){id:Nat}{o o':bI}{q:Place}(l:J.get id=some o)(m:o.own=true)(B:J.lock<=id)
 (n:F id=some q) (G:w'.heap.size=w.heap.size) (v:∀k,k≠q.bl->w'.heap[k]? =w.heap[k]?) (h1:w'.os=w.os) (H:w'.tape=w.tape) (I:w'.output=w.output)
 (L:OR P F q w' o'):St P F J w F (J.put id o') w':=by
 have r:=h.lV id o q l m n;refine⟨Env.le.refl _,⟨h.nS,h.dom,?_,h.kK,?_,λb j u=>?_,λi j p x M y=>?_,h.tabs⟩,by omega,?_,?_,h1,H,I,rfl,dD _,λ_ h=>.inl h,λ_ h=>.inl h⟩
 ·intro s j t;rw[aA.get_put]at t;split at t
  ·next e=>cases t;subst e;exact .inl ⟨q,n,L⟩
  ·next e=>exact(h.live s j t).heap (w:=w) λp N _=>v _ (h.sep id o s j q p l m t (λO=>e O.symm) n N).symm
 ·intro g o1 i j p z a b c d e f;rw[aA.get_put]at a c;split at a<;>split at c
  ·omega
  ·next D E=>subst D;exact h.sep g o i j p z l m c d e f
  ·next D E=>subst E;exact h.sep g o1 i o p z a b l d e f
  ·exact h.sep g o1 i j p z a b c d e f
 ·rw[v b (λe=>by rw[e]at u;rw[r]at u;cases u)];exact h.jl b j u
 ·rw[aA.get_put]at x;split at x
  ·next e=>subst e;rw[n]at y;cases y;exact r
  ·exact h.lV i j p x M y
 ·intro bl Q A;exact v bl (A id o q l m B n).symm
 ·intro g o1 p a b c d;rw[aA.get_put]at a;split at a
  ·next e=>subst e;exact .inr ⟨g,o,p,l,m,B,d,rfl⟩
  ·exact .inr ⟨g,o1,p,a,b,c,d,rfl⟩
def St.again{P:Program}{F:Env}{J:aA}{w w':World}(h:SR P F J w){id:Nat}{o o':bI}{q q':Place}(j:J.get id=some o)(x:o.own=true)(M:J.lock<=id)
 (t:F id=some q) (m:q'.bl=q.bl) (O:w'.heap.size=w.heap.size) (E:∀k,k≠q.bl->w'.heap[k]? =w.heap[k]?) (h1:w'.os=w.os) (Q:w'.tape=w.tape) (R:w'.output=w.output)
 (S:OR P (F.put J.next q') q' w' o'):St P F J w (F.put J.next q') ((J.kill id).new o') w':=by
 have n:=Env.Ht h q';have T:id<J.next:=h.dom id q t;have get:∀k,((J.kill id).new o').get k=if k=J.next then some o' else if k=id then none else J.get k:=λk=>by rw[aA.qE,aA.zO];rfl
 have y:=h.lV id o q j x t;refine⟨n,⟨?_,?_,?_,Env.acF h q' (DW _),?_,λb l G=>?_,λr l p z V A=>?_,λp i=>(h.tabs p i).mono n⟩,by omega,?_,?_,h1,Q,R,rfl,Nat.le_succ _,?_,λ_ h=>.inl h⟩;rotate_right
 ·rintro id (⟨p,i⟩|j)
  ·simp only[Env.put]at i;split at i
   ·next e=>subst e;exact .inr ⟨Nat.le_refl _,DW _⟩
   ·exact .inl (.inl ⟨p,i⟩)
  ·exact .inl (.inr j)
 ·intro g j;obtain⟨W,es,h1⟩:=h.nS g j;exact⟨W,es,n.pl _ _ h1⟩
 ·intro k p i;simp only[Env.put]at i;show k<J.next+1
  split at i
  ·omega
  ·have:=h.dom k p i;omega
 ·intro k l u;rw[get]at u;split at u
  ·next e=>cases u;subst e;exact .inl ⟨q',by simp[Env.put],S⟩
  ·split at u
   ·cases u
   ·next e v=>exact((h.live k l u).heap (w:=w) λp i _=>E _ (h.sep id o k l q p j x u (λH=>v H.symm) t i).symm).mono n
 ·intro s o1 r l p N a b c d e f;rw[get]at a c;simp only[Env.put]at e f;split at a<;>split at c
  ·omega
  ·next B v=>
   split at c
   ·cases c
   ·next I=>
    rw[aj B]at e;rw[ah v]at f;cases e;rw[m];exact h.sep id o r l q N j x c (λH=>I H.symm) t f
  ·next B v=>
   split at a
   ·cases a
   ·next I=>
    rw[ah B]at e;rw[aj v]at f;cases f;rw[m];exact h.sep s o1 id o p q a b j I e t
  ·next B v=>
   split at a
   ·cases a
   ·split at c
    ·cases c
    ·rw[ah B]at e;rw[ah v]at f;exact h.sep s o1 r l p N a b c d e f
 ·rw[E b (λe=>by rw[e]at G;have D:F.ro q.bl=some l:=G;rw[y]at D;cases D)];exact h.jl b l G
 ·rw[get]at z;simp only[Env.put]at A⊢;split at z
  ·next e=>rw[aj e]at A;cases A;rw[m];exact y
  ·next e=>
   rw[ah e]at A;split at z
   ·cases z
   ·exact h.lV r l p z V A
 ·intro bl X L;exact E bl (L id o q j x M t).symm
 ·intro s o1 p a b c d;rw[get]at a;simp only[Env.put]at d;split at a
  ·next e=>rw[aj e]at d;cases d;exact .inr ⟨id,o,q,j,x,M,t,m.symm⟩
  ·next e=>
   rw[ah e]at d;split at a
   ·cases a
   ·exact .inr ⟨s,o1,p,a,b,c,d,rfl⟩
def SR.sub{P:Program}{F:Env}{J τ:aA}{w:World}(h:SR P F J w)(i:∀id o,τ.get id=some o->J.get id=some o)(k:J.next<=τ.next):SR P F τ w:=
 ⟨h.nS,λid q l=>yM (h.dom id q l) k,λid o m=>h.live id o (i id o m),λid g=>⟨(h.kK id g).1,yM (h.kK id g).2 k⟩,
  λid o j n q p a b c d e f=>h.sep id o j n q p (i _ _ a) b (i _ _ c) d e f,h.jl,λid o q a b c=>h.lV id o q (i _ _ a) b c,h.tabs⟩
def St.sub{P:Program}{F F':Env}{J J' τ:aA}{w w':World}(h:St P F J w F' J' w')(f:∀id o,τ.get id=some o->J'.get id=some o)(e:J'.next<=τ.next)(g:τ.lock=J'.lock):St P F J w F' τ w':=
 {h with rel:=h.rel.sub f e,own:=λid o q a b c d=>h.own id o q (f _ _ a) b c d,lock:=g.trans h.lock,next:=kF h.next e,new:=λid i=>(h.new id i).imp (λx=>x) λ⟨a,b⟩=>⟨a,yM b e⟩}
