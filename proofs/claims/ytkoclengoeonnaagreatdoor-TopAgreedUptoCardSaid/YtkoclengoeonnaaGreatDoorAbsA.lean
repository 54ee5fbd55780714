/- Ground values, and the nodes by which a symbolic run names them. -/
import Derived.Calls
import Derived.Below
import Derived.Orders
import Derived.LoopN
import Derived.KernelRfl
import Derived.Laws.Strings
import Derived.WalkKit
set_option linter.all false
namespace Go.aP
abbrev XN:=List (Nat×FuncId)
abbrev Xs:=Option Addr
abbrev WP:=Option Bool
abbrev Wz:=List (Nat×Nat)
abbrev Ww:=Option Value
abbrev Wr:=Array TypeId
abbrev Wg:=List (Nat×Bool)
abbrev Wf:=Option IntKind
abbrev W6:=List (Option FuncId)
abbrev W5:=Array Oper
abbrev QR:=Option Nat
abbrev W7:=List (Nat×QR)
abbrev QQ:=Array Value
abbrev Qf:=Nat->Option Obj
abbrev Q6:=List Value
abbrev Q2:=List Nat
abbrev YY:=List (Q2×Nat)
abbrev Q0:=List UInt8
abbrev We:=List Q0
def ah{p:Prop}(h:p:=by omega):p:=h
def aA{p:Prop}(h:p:=by simp):p:=h
def aX{p:Prop}(h:p:=by decide):p:=h
noncomputable section
abbrev aj:=@if_neg
abbrev au:=@if_pos
abbrev aO:=@Bool.and_eq_true
abbrev aT:=@Result.andThen_ok
abbrev aU:=@Sem.run_bind
abbrev aY:=@Option.some.injEq
abbrev bf:=@List.nil_append
abbrev bn:=@Option.map_eq_some_iff
abbrev bH:=@Sem.run_pure
abbrev bI:=@List.cons_append
abbrev bJ:=@List.mem_cons
abbrev bM:=@Nat.eq_of_beq_eq_true
abbrev bT:=@List.getElem?_eq_getElem
abbrev cO:=@Nat.le_refl
abbrev dD:=@List.drop_zero
abbrev fF:=@List.length_drop
abbrev fH:=@List.getElem?_eq_some_iff
abbrev gu:=@List.length_append
abbrev gU:=@Option.map_some
abbrev gW:=@List.drop_eq_getElem_cons
abbrev ig:=@Bool.false_eq_true
abbrev iq:=@List.getElem_mem
abbrev iw:=@List.length_map
abbrev iC:=@List.map_cons
abbrev iF:=@List.length_cons
abbrev jf:=@List.getElem?_map
abbrev jg:=@List.map_nil
abbrev jm:=@List.pairwise_cons
abbrev jv:=@Nat.blt_eq
abbrev jR:=@List.eq_nil_of_length_eq_zero
abbrev jS:=@List.flatMap_cons
abbrev jY:=@Nat.add_assoc
abbrev kG:=@List.length_take
abbrev kP:=@List.getElem?_cons_zero
abbrev kQ:=@List.take_of_length_le
abbrev kR:=@Nat.le_trans
abbrev kX:=@Nat.zero_add
abbrev lT:=@List.getElem?_take
abbrev mY:=@List.getElem?_append_left
abbrev mZ:=@List.length_nil
abbrev ng:=@List.map_append
abbrev ny:=@List.mem_append
abbrev nO:=@Bool.or_eq_true
abbrev nR:=@Nat.add_zero
abbrev oz:=@List.mem_singleton
abbrev oD:=@Prod.mk.injEq
abbrev oU:=@List.lt_irrefl
abbrev oV:=@Nat.xor_assoc
abbrev qI:=@Array.getElem?_eq_some_iff
abbrev qJ:=@List.all_cons
abbrev qK:=@List.mem_map
abbrev qX:=@Int.natCast_zero
abbrev qZ:=@List.append_nil
abbrev rC:=@Nat.add_mul
abbrev rD:=@Option.getD_some
abbrev rW:=@List.getElem?_drop
abbrev rX:=@List.mem_of_getElem?
abbrev rZ:=@Nat.zero_le
abbrev tY:=@BitVec.toNat_ofInt
abbrev uf:=@List.drop_drop
abbrev uh:=@Nat.le_of_ble_eq_true
abbrev uj:=@Nat.mul_le_mul_right
abbrev um:=@Option.getD_none
abbrev uH:=@congrArg
abbrev vk:=@List.getElem?_cons_succ
abbrev vF:=@Sem.run_ite
abbrev wC:=@Array.getElem?_toList
abbrev wE:=@List.getElem?_append_right
abbrev wG:=@List.getElem?_eq_none
abbrev wJ:=@Option.bind_eq_some_iff
abbrev xK:=@Bool.eq_iff_iff
abbrev xO:=@Int.toNat_natCast
abbrev xP:=@List.mem_cons_of_mem
abbrev xR:=@Nat.lt_of_lt_of_le
abbrev yK:=@List.getD_eq_getElem?_getD
abbrev zF:=@Array.getD_eq_getD_getElem?
abbrev zG:=@Bool.not_eq_true'
abbrev zI:=@List.cons.injEq
abbrev zJ:=@List.lt_trans
abbrev zK:=@List.mem_range
abbrev zL:=@List.take_length
abbrev zM:=@Nat.lt_or_ge
abbrev zN:=@Option.bind_some
abbrev AL:=@Bool.false_or
abbrev AQ:=@Int.le_refl
abbrev AU:=@List.not_lt
abbrev AY:=@Nat.sub_self
abbrev Dc:=@Array.getElem?_eq_getElem
abbrev Df:=@Array.getElem?_setIfInBounds
abbrev Dj:=@Int.toNat_of_nonneg
abbrev Dk:=@List.take_add
abbrev Dn:=@List.take_succ_cons
abbrev Dp:=@Nat.lt_succ_self
abbrev DN:=@decide_eq_true
abbrev Em:=@of_decide_eq_true
abbrev ET:=@Bool.true_and
abbrev EW:=@Int.fdiv_eq_ediv_of_nonneg
abbrev EX:=@Int.natCast_add
abbrev EY:=@List.getElem?_toArray
abbrev EZ:=@List.length_set
abbrev E5:=@List.length_singleton
abbrev He:=@Array.getElem?_push
abbrev Hg:=@List.drop_eq_nil_of_le
abbrev Hl:=@List.mem_nil_iff
abbrev Hq:=@Nat.mul_comm
abbrev Hr:=@Nat.one_mul
abbrev Ht:=@Nat.sub_zero
abbrev Hu:=@Option.some.inj
abbrev Iy:=@decide_eq_false
abbrev J7:=@Array.getElem?_modify
abbrev J8:=@Array.length_toList
abbrev Kt:=@Int.natCast_nonneg
abbrev Ku:=@List.drop_take
abbrev Kv:=@List.ext_getElem?
abbrev Kw:=@List.length_pos_iff
abbrev Ky:=@List.mem_filter
abbrev Kz:=@List.mem_of_mem_take
abbrev KA:=@List.take_append_drop
abbrev KC:=@Nat.add_comm
abbrev KD:=@Nat.le_of_eq
abbrev KE:=@Nat.min_eq_left
abbrev KF:=@Nat.pow_succ
abbrev KH:=@Option.isNone_some
abbrev KI:=@Prod.exists
abbrev NS:=@Array.ext'
abbrev NT:=@Bool.or_false
abbrev NY:=@List.getElem?_of_mem
abbrev NZ:=@List.mem_of_mem_drop
abbrev N7:=@List.replicate_succ
abbrev N8:=@List.singleton_append
abbrev N9:=@Nat.mod_eq_of_lt
abbrev Oa:=@Nat.mul_pos
abbrev QZ:=@Array.ext_getElem?
abbrev Q5:=@Bool.and_true
abbrev Q7:=@Classical.em
abbrev Rh:=@List.le_antisymm
abbrev Ri:=@List.mem_cons_self
abbrev Rj:=@List.take_add_one
abbrev Rk:=@List.take_append_of_le_length
abbrev Rl:=@List.take_zero
abbrev Rn:=@Nat.add_sub_cancel'
abbrev Ro:=@Nat.eq_zero_or_pos
abbrev Rq:=@Nat.pow_le_pow_right
abbrev Rt:=@Nat.testBit_or
abbrev Xo:=@Array.getElem?_append_left
abbrev Xp:=@Array.mapM_eq_mapM_toList
abbrev Xq:=@BitVec.toNat_and
abbrev Xr:=@Bool.false_and
abbrev Xt:=@Bool.not_true
abbrev Xu:=@Int.le_trans
abbrev Xv:=@List.drop_append_of_le_length
abbrev Xw:=@List.drop_succ_cons
abbrev Xx:=@List.findIdx?_cons
abbrev Xy:=@List.head?_cons
abbrev Xz:=@List.length_eq_one_iff
abbrev XA:=@List.length_filter_le
abbrev XB:=@List.map_set
abbrev XC:=@List.mem_append_left
abbrev XD:=@List.mem_iff_getElem?
abbrev XF:=@Nat.add_sub_cancel_left
abbrev XG:=@Nat.mul_div_cancel
abbrev XH:=@Nat.mul_le_mul_left
abbrev XI:=@Option.isSome_some
abbrev XJ:=@Sem.run_map
abbrev XM:=@UInt8.toNat_inj
abbrev acN:=@Array.eq_empty_of_size_eq_zero
abbrev acO:=@Array.map_empty
abbrev acP:=@Array.size_range
abbrev acQ:=@BitVec.toNat_not
abbrev acR:=@BitVec.toNat_or
abbrev acS:=@BitVec.xor_allOnes
abbrev ac0:=@Int.zero_add
abbrev ac1:=@List.Perm.refl
abbrev ac2:=@List.all_append
abbrev ac3:=@List.all_nil
abbrev ac4:=@List.any_cons
abbrev ac5:=@List.cons_lt_cons_iff
abbrev ac6:=@List.contains_iff_mem
abbrev ac7:=@List.drop_append
abbrev ac8:=@List.drop_sublist
abbrev ac9:=@List.flatMap_append
abbrev ada:=@List.getElem?_range
abbrev adb:=@List.length_eq_zero_iff
abbrev ade:=@List.mapM_cons
abbrev adf:=@List.map_take
abbrev adg:=@List.mem_append_right
abbrev adh:=@List.mem_flatMap
abbrev adi:=@List.mem_of_getLast?
abbrev adk:=@List.mem_or_eq_of_mem_set
abbrev adl:=@List.mem_replicate
abbrev adn:=@List.pairwise_iff_getElem
abbrev ado:=@List.take_take
abbrev adp:=@Nat.and_two_pow_sub_one_eq_mod
abbrev adq:=@Nat.ble_eq_true_of_le
abbrev adr:=@Nat.mod_two_eq_zero_or_one
abbrev ads:=@Nat.mul_assoc
abbrev adu:=@Option.isSome_none
abbrev adw:=@Option.map_eq_none_iff
abbrev adx:=@Option.map_none
abbrev ady:=@Option.toList_some
abbrev adB:=@UInt8.toNat_ofNat'
abbrev adE:=@World.cell?_of_block
abbrev adF:=@World.ownsRow_made
abbrev akK:=@Classical.choose_spec
abbrev akL:=@List.concat_eq_append
abbrev akM:=@List.eq_nil_or_concat
abbrev akN:=@List.filter_cons_of_neg
abbrev akO:=@List.filter_cons_of_pos
abbrev akP:=@List.mem_zipIdx_iff_getElem?
abbrev akQ:=@List.perm_append_comm
abbrev akS:=@Nat.le_mul_of_pos_right
abbrev akT:=@Nat.two_pow_add_eq_or_of_lt
abbrev akU:=@Option.isSome_iff_exists
abbrev akV:=@Option.ne_none_iff_exists'
inductive GV where
 |b (x:Bool)
 |i (k:IntKind) (n:Int)
 |s (x:Q0)
 |l (xs:List GV)
 |g (cs:List GV)
 deriving Inhabited
abbrev W8:=Nat->Option GV
abbrev W3:=Option GV
abbrev Q1:=List GV
abbrev Wo:=Option Q1
def GV.cells:GV->List GV
 |.g cs=>cs
 |v=>[v]
def GV.scalar:GV->Bool
 |.g _=>false
 |_=>true
def GV.fQ(size:Nat)(g:GV):Bool:=Nat.beq g.cells.length size&&g.cells.all GV.scalar
def bV(c:BinOp)(k:IntKind)(a b:Int):W3:=
 match c with
 |.add=>some (.i k (k.wrap (a+b)))
 |.sub=>some (.i k (k.wrap (a-b)))
 |.mul=>some (.i k (k.wrap (a*b)))
 |.quo=>if b=0 then none else some (.i k (k.wrap (a.tdiv b)))
 |.rem=>if b=0 then none else some (.i k (a.tmod b))
 |.and=>some (.i k (k.wrap (BitVec.ofInt k.bits a &&& BitVec.ofInt k.bits b).toNat))
 |.or=>some (.i k (k.wrap (BitVec.ofInt k.bits a |||BitVec.ofInt k.bits b).toNat))
 |.xor=>some (.i k (k.wrap (BitVec.ofInt k.bits a ^^^ BitVec.ofInt k.bits b).toNat))
 |.andNot=>some (.i k (k.wrap (BitVec.ofInt k.bits a &&& ~~~ BitVec.ofInt k.bits b).toNat))
 |.eql=>some (.b (a==b))
 |.neq=>some (.b (a !=b))
 |.lss=>some (.b (decide (a<b)))
 |.leq=>some (.b (decide (a<=b)))
 |.gtr=>some (.b (decide (a>b)))
 |.geq=>some (.b (decide (a>=b)))
 |_=>none
def jQ(c:BinOp)(k:IntKind)(a b:Int):W3:=
 if b<0 then none else
 match c with
 |.shl=>some (.i k (k.wrap (a*2^(min b.toNat k.bits))))
 |.shr=>some (.i k (a.fdiv (2^(min b.toNat k.bits))))
 |_=>none
def xG(c:BinOp)(a b:Q0):W3:=
 match c with
 |.add=>if((a.length+b.length:Nat):Int)<=IntKind.i64.max then some (.s (a++b))else none
 |.eql=>some (.b (a==b))
 |.neq=>some (.b (!(a==b)))
 |.lss=>some (.b (Op.bytesLess a b))
 |.leq=>some (.b (Op.bytesLess a b ||a==b))
 |.gtr=>some (.b (!(Op.bytesLess a b ||a==b)))
 |.geq=>some (.b (!(Op.bytesLess a b)))
 |_=>none
def nH:Q2->List GV->List GV->Option Bool
 |[],[],[]=>some true
 |0::c,.i k a::l,.i d b::m=>if k=d then(nH c l m).map ((a==b)&&·)else none
 |1::c,.s a::l,.s b::m=>(nH c l m).map ((a==b)&&·)
 |2::c,.b a::l,.b b::m=>(nH c l m).map ((a==b)&&·)
 |_,_,_=>none
def iG(op:BinOp):GV->GV->Option GV
 |.i k a,.i c b=>match op with
  |.shl=>jQ .shl k a b
  |.shr=>jQ .shr k a b
  |op=>if k=c then bV op k a b else none
 |.s a,.s b=>xG op a b
 |_,_=>none
def SC(c:BinOp):GV->GV->Option GV
 |.b a,.b b=>match c with
  |.eql=>some (.b (a==b))
  |.neq=>some (.b (!(a==b)))
  |_=>none
 |_,_=>none
def KU(d:BinOp)(c:Q2):GV->GV->Option GV
 |.g a,.g b=>match d with
  |.eql=>(nH c a b).map .b
  |.neq=>(nH c a b).map λr=>.b (!r)
  |_=>none
 |_,_=>none
def WZ(b:UnOp):GV->Option GV
 |.b a=>match b with
  |.not=>some (.b (!a))
  |_=>none
 |.i k n=>match b with
  |.neg=>some (.i k (k.wrap (0-n)))
  |.xor=>bV .xor k (if k.signed then -1 else k.max) n
  |_=>none
 |_=>none
def mg:Q1->Option Q0
 |[]=>some []
 |.i .u8 n::rest=>if 0<=n/\n<256 then(mg rest).map (UInt8.ofNat n.toNat::·)else none
 |_::_=>none
def bQ(s:Q0):Q1:=s.map λb=>.i .u8 b.toNat
inductive Nd where
 |arg
 |ci (k:IntKind) (n:Int)
 |cb (x:Bool)
 |cs (x:Q0)
 |bin (op:BinOp) (a b:Nat)
 |Fq (op:BinOp) (a b:Nat)
 |Fv (op:BinOp) (ks:Q2) (a b:Nat)
 |un (op:UnOp) (a:Nat)
 |mm (big:Bool) (a b:Nat)
 |conv (k:IntKind) (a:Nat)
 |len (a:Nat)
 |slen (a:Nat)
 |GN (a i:Nat)
 |GU (a lo hi:Nat)
 |Ef (size a lo hi:Nat)
 |idx (a i:Nat)
 |at(size a i:Nat)
 |cell (off a:Nat)
 |mk (l:Q2)
 |ml (l:Q2)
 |app (size bytes a b:Nat)
 |upd (size off a i:Nat) (vs:Q2)
 |rep (size bytes z l c:Nat)
 |bytes (a:Nat)
 |str (a:Nat)
 |GL (a:Nat)
 |same (a b:Nat)
 |Ah (a j:Nat)
 |call (f:Nat) (l:Q2) (j:Nat)
 |Gm (z m k:Nat)
 |Gn (m k:Nat)
 |Cb (m k v:Nat)
 deriving Inhabited
def pJ:GV->GV->Bool
 |.i k a,.i c b=>Nat.beq (IntKind.casesOn k 0 1 2 3 4 5 6 7) (IntKind.casesOn c 0 1 2 3 4 5 6 7)&&a==b
 |.s a,.s b=>a==b
 |_,_=>false
def iK(k:GV):Q1->Option GV
 |[]=>none
 |.g [a,v]::l=>if pJ k a=true then some v else iK k l
 |_::l=>iK k l
def lQ(k v:GV):Q1->List GV
 |[]=>[.g [k,v]]
 |.g [a,u]::l=>if pJ k a=true then .g [k,v]::l else .g [a,u]::lQ k v l
 |x::l=>x::lQ k v l
def valsOf(val:W8):Q2->Option Q1
 |[]=>some []
 |n::l=>match val n,valsOf val l with
  |some g,some r=>some (g::r)
  |_,_=>none
def GV.int:GV->Option Int
 |.i _ n=>some n
 |_=>none
def putCells(cs:Q1)(off:Nat)(vs:Q1):Wo:=
 if off+vs.length<=cs.length then some (cs.take off++vs++cs.drop (off+vs.length))else none
def GV.put(x:GV)(off:Nat)(vs:Q1):W3:=
 match x with
 |.g a=>(putCells a off vs).map .g
 |_=>match off,vs with
  |0,[v]=>some v
  |_,_=>none
def Nd.den(I:Nat->List GV->Option Q1)(val:W8):Nd->Option GV
 |.arg=>none
 |.ci k n=>some (.i k n)
 |.cb x=>some (.b x)
 |.cs x=>some (.s x)
 |.bin e a b=>match val a,val b with
  |some x,some y=>iG e x y
  |_,_=>none
 |.Fq e a b=>match val a,val b with
  |some x,some y=>SC e x y
  |_,_=>none
 |.Fv e q a b=>match val a,val b with
  |some x,some y=>KU e q x y
  |_,_=>none
 |.un e a=>match val a with
  |some x=>WZ e x
  |none=>none
 |.mm p a b=>match val a,val b with
  |some (.i k x),some (.i s y)=>if k=s then some (.i k (if p then(if x<y then y else x)else(if y<x then y else x)))else none
  |_,_=>none
 |.conv k a=>match val a with
  |some (.i _ n)=>some (.i k (k.wrap n))
  |_=>none
 |.len a=>match val a with
  |some (.l xs)=>some (.i .i64 xs.length)
  |_=>none
 |.slen a=>match val a with
  |some (.s x)=>some (.i .i64 x.length)
  |_=>none
 |.GN a i=>match val a,val i with
  |some (.s x),some (.i _ k)=>if 0<=k then match x[k.toNat]? with
   |some c=>some (.i .u8 c.toNat)
   |none=>none
   else none
  |_,_=>none
 |.GU a lo hi=>match val a,val lo,val hi with
  |some (.s x),some (.i _ l),some (.i _ h)=>if 0<=l/\l<=h/\h<=x.length then some (.s ((x.take h.toNat).drop l.toNat))else none
  |_,_,_=>none
 |.Ef size a lo hi=>match val a,val lo,val hi with
  |some (.l xs),some (.i _ l),some (.i _ h)=>if 0<=l/\l<=h/\h<=xs.length/\(xs.all λx=>Nat.beq x.cells.length size)=true then some (.l ((xs.take h.toNat).drop l.toNat))else none
  |_,_,_=>none
 |.idx a i=>match val a,val i with
  |some (.l xs),some (.i _ k)=>if 0<=k/\k<xs.length then some (.i .i64 k)else none
  |_,_=>none
 |.at size a i=>match val a,val i with
  |some (.l xs),some (.i _ k)=>if 0<=k then match xs[k.toNat]? with
   |some x=>if x.cells.length=size then some x else none
   |none=>none
   else none
  |_,_=>none
 |.cell off a=>match val a with
  |some g=>match g.cells[off]? with
   |some c=>if c.scalar then some c else none
   |none=>none
  |none=>none
 |.mk l=>match valsOf val l with
  |some gs=>if gs.all GV.scalar then some (.g gs)else none
  |none=>none
 |.ml l=>(valsOf val l).map .l
 |.app size t a b=>match val a,val b with
  |some (.l xs),some (.l o)=>if o.all (GV.fQ size)=true/\2*(xs.length+o.length)*t<=2^48/\xs.length+o.length<=2^48 then some (.l (xs++o))else none
  |_,_=>none
 |.upd size off a i vs=>match val a,val i,valsOf val vs with
  |some (.l xs),some (.i _ k),some gs=>
   if 0<=k/\gs.all GV.scalar=true then match xs[k.toNat]? with
   |some x=>if x.cells.length=size then(x.put off gs).map λy=>.l (xs.set k.toNat y)else none
   |none=>none
   else none
  |_,_,_=>none
 |.rep size w z l c=>match val z,val l,val c with
  |some x,some (.i _ n),some (.i _ m)=>if 0<=n/\n<=m/\w*m<=2^48/\m<=2^60/\x.fQ size=true then some (.l (List.replicate n.toNat x))else none
  |_,_,_=>none
 |.bytes a=>match val a with
  |some (.s x)=>some (.l (bQ x))
  |_=>none
 |.str a=>match val a with
  |some (.l xs)=>if xs.length<=2^48 then(mg xs).map .s else none
  |_=>none
 |.GL a=>match val a with
  |some (.s x)=>some (.s x)
  |_=>none
 |.same a b=>match val a,val b with
  |some (.l xs),some (.l o)=>if o.length=xs.length then some (.l o)else none
  |_,_=>none
 |.Ah a j=>match val a with
  |some (.i _ m)=>some (.b (decide (m=(j:Int))))
  |_=>none
 |.call f l j=>match valsOf val l with
  |some gs=>match I f gs with
   |some r=>r[j]?
   |none=>none
  |none=>none
 |.Gm z m k=>match val z,val m,val k with
  |some d,some (.l xs),some g=>some ((iK g xs).getD d)
  |_,_,_=>none
 |.Gn m k=>match val m,val k with
  |some (.l xs),some g=>some (.b (iK g xs).isSome)
  |_,_=>none
 |.Cb m k v=>match val m,val k,val v with
  |some (.l xs),some g,some u=>some (.l (lQ g u xs))
  |_,_,_=>none
def vV(o:BinOp):Nat:=BinOp.casesOn o 0 1 2 3 4 5 6 7 8 9 10 11 12 13 14 15 16
def avt{o o':BinOp}(h:Nat.beq (vV o) (vV o')=true):o=o':=by cases o<;>cases o'<;>first|rfl|(simp[vV]at h)
def JU(o:UnOp):Nat:=UnOp.casesOn o 0 1 2 3
def aBC{o o':UnOp}(h:Nat.beq (JU o) (JU o')=true):o=o':=by cases o<;>cases o'<;>first|rfl|(simp[JU]at h)
def kc(k:IntKind):Nat:=IntKind.casesOn k 0 1 2 3 4 5 6 7
def UW{o o':IntKind}(h:Nat.beq (kc o) (kc o')=true):o=o':=by cases o<;>cases o'<;>first|rfl|(simp[kc]at h)
def yx:Q2->List Nat->Bool
 |[],[]=>true
 |a::l,b::m=>Nat.beq a b&&yx l m
 |_,_=>false
def aan:∀{l m:Q2},yx l m=true->l=m
 |[],[],_=>rfl
 |a::l,b::m,h=>by simp only[yx,aO]at h;rw[bM h.1,aan h.2]
 |[],_::_,h=>by simp[yx]at h
 |_::_,[],h=>by simp[yx]at h
def Bo:Q0->List UInt8->Bool
 |[],[]=>true
 |a::l,b::m=>Nat.beq a.toNat b.toNat&&Bo l m
 |_,_=>false
def Yb:∀{l m:Q0},Bo l m=true->l=m
 |[],[],_=>rfl
 |a::l,b::m,h=>by simp only[Bo,aO]at h;rw[XM.1 (bM h.1),Yb h.2]
 |[],_::_,h=>by simp[Bo]at h
 |_::_,[],h=>by simp[Bo]at h
def IW(a b:Int):Bool:=match a,b with
 |.ofNat m,.ofNat n=>Nat.beq m n
 |.negSucc m,.negSucc n=>Nat.beq m n
 |_,_=>false
def agM{a b:Int}(h:IW a b=true):a=b:=by
 unfold IW at h;split at h
 ·rw[bM h]
 ·rw[bM h]
 ·cases h
def Nd.eq(x y:Nd):Bool:=
 match x with
 |.arg=>false
 |.ci k n=>match y with|.ci t J=>Nat.beq (kc k) (kc t)&&IW n J|_=>false
 |.cb b=>match y with|.cb e=>(bif b then e else !e)|_=>false
 |.cs s=>match y with|.cs q=>Bo s q|_=>false
 |.bin u a b=>match y with|.bin p d e=>Nat.beq a d&&Nat.beq b e&&Nat.beq (vV u) (vV p)|_=>false
 |.Fq u a b=>match y with|.Fq p d e=>Nat.beq a d&&Nat.beq b e&&Nat.beq (vV u) (vV p)|_=>false
 |.Fv u L a b=>match y with|.Fv p D d e=>Nat.beq a d&&Nat.beq b e&&Nat.beq (vV u) (vV p)&&yx L D|_=>false
 |.un u a=>match y with|.un p d=>Nat.beq a d&&Nat.beq (JU u) (JU p)|_=>false
 |.mm g a b=>match y with|.mm I d e=>Nat.beq a d&&Nat.beq b e&&(bif g then I else !I)|_=>false
 |.conv k a=>match y with|.conv t d=>Nat.beq a d&&Nat.beq (kc k) (kc t)|_=>false
 |.len a=>match y with|.len d=>Nat.beq a d|_=>false
 |.slen a=>match y with|.slen d=>Nat.beq a d|_=>false
 |.GN a i=>match y with|.GN d w=>Nat.beq a d&&Nat.beq i w|_=>false
 |.GU a l h=>match y with|.GU d r E=>Nat.beq a d&&Nat.beq l r&&Nat.beq h E|_=>false
 |.Ef s a l h=>match y with|.Ef q d r E=>Nat.beq s q&&Nat.beq a d&&Nat.beq l r&&Nat.beq h E|_=>false
 |.idx a i=>match y with|.idx d w=>Nat.beq a d&&Nat.beq i w|_=>false
 |.at s a i=>match y with|.at q d w=>Nat.beq s q&&Nat.beq a d&&Nat.beq i w|_=>false
 |.cell o a=>match y with|.cell F d=>Nat.beq o F&&Nat.beq a d|_=>false
 |.mk l=>match y with|.mk r=>yx l r|_=>false
 |.ml l=>match y with|.ml r=>yx l r|_=>false
 |.app z s a b=>match y with|.app A q d e=>Nat.beq z A&&Nat.beq s q&&Nat.beq a d&&Nat.beq b e|_=>false
 |.upd s o a i M=>match y with|.upd q F d w G=>Nat.beq s q&&Nat.beq o F&&Nat.beq a d&&Nat.beq i w&&yx M G|_=>false
 |.rep s b z l c=>match y with|.rep q e A r N=>Nat.beq s q&&Nat.beq b e&&Nat.beq z A&&Nat.beq l r&&Nat.beq c N|_=>false
 |.bytes a=>match y with|.bytes d=>Nat.beq a d|_=>false
 |.str a=>match y with|.str d=>Nat.beq a d|_=>false
 |.GL a=>match y with|.GL d=>Nat.beq a d|_=>false
 |.same a b=>match y with|.same d e=>Nat.beq a d&&Nat.beq b e|_=>false
 |.Ah a j=>match y with|.Ah d H=>Nat.beq a d&&Nat.beq j H|_=>false
 |.call f l j=>match y with|.call O r H=>Nat.beq f O&&Nat.beq j H&&yx l r|_=>false
 |.Gm z m k=>match y with|.Gm A B t=>Nat.beq z A&&Nat.beq m B&&Nat.beq k t|_=>false
 |.Gn m k=>match y with|.Gn B t=>Nat.beq m B&&Nat.beq k t|_=>false
 |.Cb m k v=>match y with|.Cb B t P=>Nat.beq m B&&Nat.beq k t&&Nat.beq v P|_=>false
def Vq{a b:Nat}:Nat.beq a b=true↔a=b:=⟨Nat.eq_of_beq_eq_true,λh=>by rw[h];exact Nat.beq_refl b⟩
def au6{l m:Q2}:yx l m=true↔l=m:=⟨aan,λh=>by subst h;induction l with|nil=>rfl|cons a l b=>simp[yx,b]⟩
def aef{l m:Q0}:Bo l m=true↔l=m:=⟨Yb,λh=>by subst h;induction l with|nil=>rfl|cons a l b=>simp[Bo,b]⟩
def agN{a b:Int}:IW a b=true↔a=b:=⟨agM,λh=>by subst h;cases a<;>simp[IW]⟩
def ah3{o o':BinOp}:vV o=vV o'↔o=o':=⟨λh=>avt (Vq.2 h),λh=>by rw[h]⟩
def aBB{o o':UnOp}:JU o=JU o'↔o=o':=⟨λh=>aBC (Vq.2 h),λh=>by rw[h]⟩
def ath{o o':IntKind}:kc o=kc o'↔o=o':=⟨λh=>UW (Vq.2 h),λh=>by rw[h]⟩
def SB{a b:Bool}:(bif a then b else !b)=true↔a=b:=by cases a<;>cases b<;>simp
def Nd.eq_of{x y:Nd}(h:x.eq y=true):x=y/\x≠.arg:=by
 cases x<;>simp only[Nd.eq]at h
 case arg=>cases h
 all_goals
  split at h
  ·simp only[aO,Vq,au6,aef,agN,ah3,aBB,ath,SB]at h;simp_all
  ·cases h
class gQ where
 nodes:List Nd
 dec:Wg
 ka:Nat:=0
def O9(x:Nd):List Nd->Nat->Option Nat
 |[],_=>none
 |y::l,k=>bif x.eq y then some k else O9 x l (k+1)
def fK[gQ](x:Nd):QR:=O9 x gQ.nodes 0
def O1(n:Nat):Wg->Option Bool
 |[]=>none
 |p::l=>bif Nat.beq n p.1 then some p.2 else O1 n l
def YH[gQ](n:Nat):WP:=O1 n gQ.dec
def afL{x:Nd}:∀{l:List Nd}{k n:Nat},O9 x l k=some n->k<=n/\l[n-k]? =some x/\x≠.arg
 |[],_,_,h=>by simp[O9]at h
 |y::l,k,n,h=>by
  simp only[O9]at h;cases a:x.eq y with
  |true=>rw[a]at h;simp only[cond_true,aY]at h;subst h;obtain⟨rfl,b⟩:=Nd.eq_of a;exact⟨Nat.le_refl _,aA,b⟩
  |false=>rw[a]at h;simp only[cond_false]at h;obtain⟨d,b,c⟩:=afL h;refine⟨ah,?_,c⟩;have:n-k=(n-(k+1))+1:=ah;rw[this,vk];exact b
def aqK[gQ]{x:Nd}{n:Nat}(h:fK x=some n):gQ.nodes[n]? =some x/\x≠.arg:=by obtain⟨_,a,b⟩:=afL h;exact⟨by simpa using a,b⟩
def O3{n:Nat}{b:Bool}:∀{l:Wg},O1 n l=some b->(n,b)∈l
 |[],h=>by simp[O1]at h
 |p::l,h=>by
  simp only[O1]at h;cases a:Nat.beq n p.1 with
  |true=>
   rw[a]at h;simp only[cond_true,aY]at h;have:p=(n,b):=by rw[<-h,bM a]
   rw[this];simp
  |false=>rw[a]at h;simp only[cond_false]at h;exact xP _ (O3 h)
noncomputable section
inductive AV where
 |b (x:Bool)
 |i (k:IntKind) (n:Int)
 |s (x:Q0)
 |jH
 |p (id off:Nat)
 |gy
 |sl (id off len:Nat) (cap:QR)
 |pO
 |mp (id:Nat)
 |yZ
 |fn (f:FuncId) (first caps:List AV)
 |sZ
 |jh (t:TypeId) (v:AV)
 |agg (l:List AV)
 |dU (l:List AV)
 |z (k:IntKind) (lo hi:Int)
 |ro (l:List AV)
 |rp (a:AV) (off:Nat)
 |nd (n:Nat)
 |rx (n off:Nat)
 |sv (id n:Nat)
 |pv (id n off:Nat)
 |pd (id n:Nat)
 deriving Inhabited
abbrev XS:=List (AV×AV)
abbrev Wm:=List (Nat×AV)
abbrev QP:=Operand->Option AV
abbrev Q4:=Option AV
abbrev Q3:=List AV
abbrev Qt:=List (Nat×Q3)
structure Place where
 bl:Nat
 ba:Nat
 sz:Nat
 es:Nat
structure Env where
 pl:Nat->Option Place
 ro:Nat->Option Obj
 gh:Nat->Bool
instance:CoeFun Env (λ_=>Nat->Option Place):=⟨Env.pl⟩
class aJ extends gQ where
 tabs:Qt
 I:Nat->List GV->Option Q1
 val:Nat->Option GV
 qQ:∀(n:Nat) nd,nodes[n]? =some nd->nd≠.arg->∃g,val n=some g/\nd.den I val=some g
 BD:∀(n:Nat)(b:Bool),(n,b)∈dec->val n=some (.b b)
def dN(xs:Q6):Q6:=xs.flatMap λx=>x.cells.toList
def FH(cs:QQ)(off:Nat)(l:Q6):Prop:=∀(k:Nat) x,l[k]? =some x->cs[off+k]? =some x
mutual
def GR(ro:Qf):GV->Value->Prop
 |.b x,v=>v=.bool x
 |.i k n,v=>v=.int k n
 |.s x,v=>v=.string ⟨⟨x⟩⟩
 |.g cs,v=>∃vs,v=.agg ⟨vs⟩/\aS ro cs vs
 |.l xs,v=>(xs=[]/\∃p,v=.slice p 0 0)\/∃bl off c a sz,v=.slice (some ⟨bl,off,none⟩) xs.length c/\xs.length<=c/\aS ro xs a/\(∀x∈a,x.cells.size=sz)/\
   (xs≠[]->∃cs elem b,ro bl=some (.cells cs elem b)/\off+(dN a).length<=cs.size/\FH cs off (dN a))
def aS(ro:Qf):Q1->List Value->Prop
 |[],vs=>vs=[]
 |a::l,vs=>∃x xs,vs=x::xs/\GR ro a x/\aS ro l xs
end
variable[aJ]
mutual
def VR(F:Env):AV->Value->Prop
 |.b x,v=>v=.bool x
 |.i k n,v=>v=.int k n
 |.s x,v=>v=.string ⟨⟨x⟩⟩
 |.jH,v=>v=.pointer none
 |.p id off,v=>∃q,F id=some q/\v=.pointer (some ⟨q.bl,q.ba+off,none⟩)
 |.gy,v=>v=.slice none 0 0
 |.sl id off len cap,v=>∃q,F id=some q/\len<=cap.getD ((q.sz-off)/q.es)/\v=.slice (some ⟨q.bl,q.ba+off,none⟩) len (cap.getD ((q.sz-off)/q.es))
 |.pO,v=>v=.map none
 |.mp id,v=>∃q,F id=some q/\v=.map (some q.bl)
 |.yZ,v=>v=.nilFunc
 |.fn f fi b,v=>∃e vs,v=.func (.func f) ⟨e⟩ ⟨vs⟩/\aG F fi e/\aG F b vs
 |.sZ,v=>v=.nilIface
 |.jh t a,v=>∃x,v=.iface t x/\VR F a x
 |.agg l,v=>∃vs,v=.agg ⟨vs⟩/\aG F l vs
 |.dU l,v=>∃vs,v=.tuple ⟨vs⟩/\aG F l vs
 |.z k lo hi,v=>∃n:Int,lo<=n/\n<=hi/\v=.int k n
 |.ro l,v=>(l=[]/\∃p,v=.slice p 0 0)\/∃bl off c xs sz,v=.slice (some ⟨bl,off,none⟩) l.length c/\l.length<=c/\aG F l xs/\(∀x∈xs,x.cells.size=sz)/\
   (l≠[]->∃cs elem d,F.ro bl=some (.cells cs elem d)/\off+(dN xs).length<=cs.size/\FH cs off (dN xs))
 |.rp a off,v=>∃bl base cs elem d x,F.ro bl=some (.cells cs elem d)/\VR F a x/\v=.pointer (some ⟨bl,base+off,none⟩)/\base+x.cells.size<=cs.size/\FH cs base x.cells.toList
 |.nd n,v=>∃g,aJ.val n=some g/\g.scalar=true/\GR F.ro g v
 |.rx n off,v=>∃g bl base cs elem d x,aJ.val n=some g/\F.ro bl=some (.cells cs elem d)/\GR F.ro g x/\v=.pointer (some ⟨bl,base+off,none⟩)/\base+x.cells.size<=cs.size/\FH cs base x.cells.toList
 |.sv id n,v=>∃xs,aJ.val n=some (.l xs)/\((∃q,F id=some q/\xs.length<=q.sz/q.es/\v=.slice (some ⟨q.bl,q.ba,none⟩) xs.length (q.sz/q.es))\/(F.gh id=true/\xs=[]/\v=.slice none 0 0))
 |.pv id n off,v=>∃q k i,F id=some q/\aJ.val n=some (.i k i)/\v=.pointer (some ⟨q.bl,q.ba+i.toNat*q.es+off,none⟩)
 |.pd id n,v=>∃xs p,aJ.val n=some (.l xs)/\v=.pointer p/\(xs≠[]->∃q,F id=some q/\p=some ⟨q.bl,q.ba,none⟩)
def aG(F:Env):Q3->List Value->Prop
 |[],vs=>vs=[]
 |a::l,vs=>∃x xs,vs=x::xs/\VR F a x/\aG F l xs
end
inductive Tr(α:Type) where
 |nil
 |nd (v:Option α) (l r:Tr α)
 deriving Inhabited
def Tr.val{α:Type}(t:Tr α):Option α:=Tr.casesOn t none (λv _ _=>v)
def Tr.Ed{α:Type}(t:Tr α):Tr α:=Tr.casesOn t .nil (λ_ l _=>l)
def Tr.Et{α:Type}(t:Tr α):Tr α:=Tr.casesOn t .nil (λ_ _ r=>r)
def Tr.uM{α:Type}(p:List Bool):Tr α->Option α:=List.rec (motive:=λ_=>Tr α->Option α) Tr.val (λb _ a t=>a (bif b then t.Ed else t.Et)) p
def Tr.JK{α:Type}(x:Option α)(p:List Bool):Tr α->Tr α:=List.rec (motive:=λ_=>Tr α->Tr α) (λt=>.nd x t.Ed t.Et)
 (λb _ a t=>bif b then .nd t.val (a t.Ed) t.Et else .nd t.val t.Ed (a t.Et)) p
def Qo(f:Nat):Nat->List Bool:=Nat.rec (motive:=λ_=>Nat->List Bool) (λ_=>[]) (λ_ a n=>bif Nat.beq n 0 then[]else Nat.beq ((n-1)%2) 0::a ((n-1)/2)) f
def path(n:Nat):List Bool:=Qo (Nat.log2 n+1) n
def Tr.get{α:Type}(t:Tr α)(n:Nat):Option α:=Tr.uM (path n) t
def Tr.set{α:Type}(t:Tr α)(n:Nat)(x:Option α):Tr α:=Tr.JK x (path n) t
inductive bG where
 |cells (c:Q3) (et:TypeId) (rw opn:Bool)
 |iter (s:Q0) (pos:Nat)
 |map (es:XS)
 |iterM (m:QR)
 |vec (n:Nat) (et:TypeId) (f:Bool)
 |smap (n:Nat) (kk:Wf) (sz:QR)
 |pmap (es:List (Q0×AV))
 deriving Inhabited
abbrev Ys:=List (Nat×bG)
abbrev WN:=List (Nat×Option bG)
structure aC where
 h:Tr bG
 next:Nat
 lock:Nat
 deriving Inhabited
abbrev Wd:=Option (AV×aC)
abbrev W4:=Option (Q4×aC)
def aC.get(J:aC)(id:Nat):Option bG:=J.h.get id
def aC.put(J:aC)(id:Nat)(o:bG):aC:={J with h:=J.h.set id (some o)}
def aC.kill(J:aC)(id:Nat):aC:={J with h:=J.h.set id none}
def aC.new(J:aC)(o:bG):aC:={J with h:=J.h.set J.next (some o),next:=J.next+1}
def uS{α β:Type}(f:α->Option β):List α->Option (List β)
 |[]=>some []
 |x::xs=>match f x with
  |none=>none
  |some y=>match uS f xs with
   |none=>none
   |some a=>some (y::a)
def AV.toVal:Nat->AV->Option Value
 |0,_=>none
 |n+1,a=>
  match a with
  |.b x=>some (.bool x)
  |.i k x=>some (.int k x)
  |.s x=>some (.string ⟨⟨x⟩⟩)
  |.jH=>some (.pointer none)
  |.gy=>some (.slice none 0 0)
  |.pO=>some (.map none)
  |.yZ=>some .nilFunc
  |.sZ=>some .nilIface
  |.jh t v=>(AV.toVal n v).map (.iface t)
  |.agg l=>(uS (AV.toVal n) l).map λvs=>.agg ⟨vs⟩
  |.dU l=>(uS (AV.toVal n) l).map λvs=>.tuple ⟨vs⟩
  |_=>none
def lW:Nat->Value->Option AV
 |0,_=>none
 |n+1,v=>
  match v with
  |.bool x=>some (.b x)
  |.int k x=>some (.i k x)
  |.string s=>some (.s s.data.toList)
  |.pointer none=>some .jH
  |.slice none 0 0=>some .gy
  |.map none=>some .pO
  |.nilFunc=>some .yZ
  |.nilIface=>some .sZ
  |.iface t x=>(lW n x).map (.jh t)
  |.agg cs=>(uS (lW n) cs.toList).map .agg
  |.tuple cs=>(uS (lW n) cs.toList).map .dU
  |_=>none
def qG{α:Type}(P:Program):Sem α->Option α
 |.pure a=>some a
 |.program k=>qG P (k P)
 |.mark _ k=>qG P k
 |_=>none
structure bF where
 t:Tr AV
 n:Nat
 gn:Nat
def bF.eval(a:bF):Operand->Option AV
 |.tmp t=>a.t.get t
 |.const v=>lW 4 v
 |.global g=>if g<a.gn then some (.p g 0)else none
 |.func f=>some (.fn f [] [])
def bF.put(a:bF)(dst:Option Tmp)(v:Q4):Option bF:=
 match dst with
 |none=>some a
 |some d=>if d<a.n then some {a with t:=a.t.set d v}else none
def AV.cells:AV->List AV
 |.agg l=>l
 |v=>[v]
def AV.nT:AV->Bool
 |.agg _|.dU _=>false
 |_=>true
def zC(P:Program)(t:TypeId):Option Q3:=
 match P.info? t with
 |some i=>match i.zero with
  |some z=>(lW 4 z).map AV.cells
  |none=>none
 |none=>none
def nU(P:Program)(t:TypeId):WP:=
 match P.underlying t with
 |some (.struct _)|some (.array _ _)=>some true
 |some _=>some false
 |none=>none
def sizeT(P:Program)(t:TypeId):QR:=(P.info? t).map (·.size)
def takeN(l:Q3)(off n:Nat):Option Q3:=
 let r:=(l.drop off).take n
 if r.length=n then some r else none
def Aw(l:Q3)(off:Nat)(vs:Q3):Option Q3:=
 if off+vs.length<=l.length then some (l.take off++vs++l.drop (off+vs.length))else none
def Ba(a:Nat->Option (Nat×Nat))(cells:Q3):Wm->Option Q3
 |[]=>some cells
 |(i,v)::rest=>
  match a i with
  |none=>none
  |some (off,size)=>
   if v.cells.length=size then
    match Aw cells off v.cells with
    |some cs=>Ba a cs rest
    |none=>none
   else none
def FW(a:QP):List (Nat×Operand)->Option Wm
 |[]=>some []
 |(i,x)::rest=>match a x,FW a rest with
  |some v,some r=>some ((i,v)::r)
  |_,_=>none
def BJ(a:QP):List Operand->Option Q3
 |[]=>some []
 |x::rest=>match a x,BJ a rest with
  |some v,some r=>some (v::r)
  |_,_=>none
def RU(P:Program)(t:TypeId)(cs:Q3)(off:Nat):Q4:=
 match nU P t with
 |some true=>match sizeT P t with
  |some n=>(takeN cs off n).map .agg
  |none=>none
 |some false=>cs[off]?
 |none=>none
def QE(P:Program):List Field->Option Wz
 |[]=>some []
 |f::fs=>match sizeT P f.type,QE P fs with
  |some n,some r=>some ((f.offset,n)::r)
  |_,_=>none
def Rz(P:Program)(t:TypeId)(a:Wm):Q4:=
 match zC P t,P.underlying t with
 |some zero,some (.struct b)=>
  match QE P b.toList with
  |some c=>(Ba (λi=>c[i]?) zero a).map .agg
  |none=>none
 |some zero,some (.array _ e)=>
  match sizeT P e with
  |some d=>(Ba (λi=>some (i*d,d)) zero a).map .agg
  |none=>none
 |_,_=>none
def jC(n:Nat)(zero:Q3):Q3:=(List.replicate n zero).flatten
def wO(P:Program)(t:TypeId)(J:aC)(a:AV):Q4:=
 match a with
 |.p id b=>
  match J.get id with
  |some (.cells c _ _ _)=>
   match nU P t with
   |some true=>match sizeT P t with
    |some n=>(takeN c b n).map .agg
    |none=>none
   |some false=>c[b]?
   |none=>none
  |_=>none
 |.rp e b=>
  match nU P t with
  |some true=>match sizeT P t with
   |some n=>(takeN e.cells b n).map .agg
   |none=>none
  |some false=>e.cells[b]?
  |none=>none
 |_=>none
def Fe(P:Program)(t:TypeId)(J:aC)(a v:AV):Option aC:=
 match a with
 |.p id b=>
  match J.get id with
  |some (.cells c e true d)=>
   if J.lock<=id/\sizeT P t=some v.cells.length/\v.cells.all AV.nT then
    (Aw c b v.cells).map λf=>J.put id (.cells f e true d)
   else none
  |_=>none
 |_=>none
def wM:AV->Option Int
 |.i _ n=>some n
 |_=>none
def Bc(len:Nat)(a:Nat->Bool):Q4->Option Nat
 |none=>some len
 |some v=>match wM v with
  |some h=>if 0<=h/\a h.toNat=true then some h.toNat else none
  |none=>none
def KN(h:Nat):Q4->Option Nat
 |none=>some 0
 |some v=>match wM v with
  |some l=>if 0<=l/\l<=h then some l.toNat else none
  |none=>none
def xX(len:Nat)(a:Nat->Bool)(low b:Q4):Option (Nat×Nat):=
 match Bc len a b with
 |none=>none
 |some h=>match KN h low with
  |none=>none
  |some l=>some (l,h)
def Jv(a:QP):Option Operand->Option Q4
 |none=>some none
 |some x=>(a x).map some
end
noncomputable section
variable[gQ]
def bytesOf:Q3->Option Q0
 |[]=>some []
 |.i .u8 n::rest=>if 0<=n/\n<256 then(bytesOf rest).map (UInt8.ofNat n.toNat::·)else none
 |_::_=>none
def wU(s:Q0):Q3:=s.map λb=>.i .u8 b.toNat
def xE(a:AV):Ww:=a.toVal 4
def wZ(P:Program)(t:TypeId):Option (TypeId×Nat×Nat×Q3):=
 match P.underlying t with
 |some (.slice e)=>match P.info? e,zC P e with
  |some i,some z=>if e≠0/\z.length=i.size then some (e,i.size,i.bytes,z)else none
  |_,_=>none
 |_=>none
def zy(J:aC)(size:Nat):AV->Option (Nat×Q3)
 |.gy=>some (0,[])
 |.sl id off len _=>match J.get id with
  |some (.cells c _ _ _)=>(takeN c off (len*size)).map λr=>(len,r)
  |_=>none
 |.s x=>if size=1 then some (x.length,wU x)else none
 |.ro l=>if l.all (λa=>a.cells.length==size)=true then some (l.length,l.flatMap AV.cells)else none
 |_=>none
def F9(P:Program)(t:TypeId):Bool:=
 match P.underlying t with
 |some (.slice _)|some .string=>true
 |_=>false
def sliceLen:AV->Nat
 |.sl _ _ n _=>n
 |_=>0
def pY(e size bytes:Nat)(s:AV)(n:Nat)(new:Q3)(J:aC):Wd:=
 if size=0\/new.all AV.nT=false\/¬(2*(sliceLen s+n)*bytes<=2^48/\sliceLen s+n<=2^48)then none else
 match s with
 |.gy=>if n=0 then some (.gy,J)else some (.sl J.next 0 n none,J.new (.cells new e true true))
 |.sl id a len (some d)=>
  if len+n<=d then
   if n=0 then some (s,J)else
   match J.get id with
   |some (.cells c f true g)=>
    if J.lock<=id then
     (Aw c (a+len*size) new).map λh=>(.sl id a (len+n) (some d),J.put id (.cells h f true g))
    else none
   |_=>none
  else
   match J.get id with
   |some (.cells c _ _ _)=>(takeN c a (len*size)).map λb=>(.sl J.next 0 (len+n) none,J.new (.cells (b++new) e true true))
   |_=>none
 |.sl id a len none=>
  if n=0 then some (s,J)
  else if J.lock<=id then
   match J.get id with
   |some (.cells c f true true)=>if f=e then(takeN c a (len*size)).map λb=>(.sl J.next 0 (len+n) none,(J.kill id).new (.cells (b++new) e true true))else none
   |_=>none
  else none
 |.ro l=>if n=0 then some (.ro l,J)else none
 |_=>none
def XO(P:Program)(a:Wr)(s x:AV)(J:aC):Wd:=
 match a.toList with
 |[t,c]=>
  match wZ P t,F9 P c with
  |some (e,b,bytes,_),true=>
   match zy J b x with
   |some (n,new)=>pY e b bytes s n new J
   |none=>none
  |_,_=>none
 |_=>none
def RH(P:Program)(J:aC)(t:TypeId)(x:AV):Q4:=
 match P.underlying t,x with
 |some .string,.s s=>some (.i .i64 s.length)
 |some (.slice _),.gy=>some (.i .i64 0)
 |some (.slice _),.sl _ _ n _=>some (.i .i64 n)
 |some (.slice _),.ro l=>some (.i .i64 l.length)
 |some (.map _ _),.pO=>some (.i .i64 0)
 |some (.map _ _),.mp id=>match J.get id with
  |some (.map es)=>some (.i .i64 es.length)
  |_=>none
 |some (.array n _),_=>some (.i .i64 n)
 |_,_=>none
def RN(P:Program)(t:TypeId)(len cap:AV)(J:aC):Wd:=
 match wZ P t,wM len,wM cap with
 |some (e,a,bytes,z),some l,some c=>
  if 0<=l/\l<=c/\bytes*c<=2^48/\c<=2^60 then
   some (.sl J.next 0 l.toNat (some c.toNat),J.new (.cells (if a=0 then[]else jC c.toNat z) e true false))
  else none
 |_,_,_=>none
def RV(size:Nat)(es:Q3)(l h:Nat):Q4:=
 if h=l then some (.ro [])else
 match es[0]? with
 |some a=>if a.cells.length=size then some (.ro ((es.take h).drop l))else none
 |none=>none
def Bf(P:Program)(t:TypeId)(J:aC)(x:AV)(lo hi:Q4):Q4:=
 match P.underlying t,x with
 |some .string,.s s=>(xX s.length (λh=>Nat.ble h s.length) lo hi).map λ(l,h)=>.s ((s.take h).drop l)
 |some (.slice e),.sl id b len d=>
  match sizeT P e,d with
  |some a,some c=>
   (xX len (λh=>Nat.ble h c) lo hi).bind λ(l,h)=>
    if c=l then some (.sl id b (h-l) (some 0))else some (.sl id (b+l*a) (h-l) (some (c-l)))
  |some a,none=>
   match J.get id with
   |some (.cells _ f _ true)=>if f=e then
     (xX len (λh=>Nat.ble h len) lo hi).bind λ(l,h)=>
      if l<len then some (.sl id (b+l*a) (h-l) none)else if l=0 then some (.sl id b (h-l) none)else if h=l then some (.ro [])else none
    else none
   |_=>none
  |none,_=>none
 |some (.slice e),.gy=>match sizeT P e with
  |some _=>(xX 0 (λh=>Nat.ble h 0) lo hi).map λ_=>.gy
  |none=>none
 |some (.slice e),.ro es=>match sizeT P e with
  |some a=>(xX es.length (λh=>Nat.ble h es.length) lo hi).bind λ(l,h)=>RV a es l h
  |none=>none
 |some (.array n e),.p id b=>match sizeT P e with
  |some a=>(xX n (λh=>Nat.ble h n) lo hi).map λ(l,h)=>
    if n=l then .sl id b (h-l) (some 0)else .sl id (b+l*a) (h-l) (some (n-l))
  |none=>none
 |_,_=>none
def RF(P:Program)(t:TypeId)(x:AV)(f:Nat):Q4:=
 match P.underlying t,x with
 |some (.struct b),.p id c=>
  match b[f]? with
  |some d=>match sizeT P d.type with
   |some n=>if n=0 then none else some (.p id (c+d.offset))
   |none=>none
  |none=>none
 |some (.struct b),.rp a c=>
  match b[f]? with
  |some d=>match sizeT P d.type with
   |some n=>if n=0 then none else some (.rp a (c+d.offset))
   |none=>none
  |none=>none
 |_,_=>none
def RD(P:Program)(t:TypeId)(x:AV)(f:Nat):Q4:=
 match P.underlying t,x with
 |some (.struct a),.agg c=>
  match a[f]? with
  |some b=>RU P b.type c b.offset
  |none=>none
 |_,_=>none
def yN(P:Program)(t:TypeId)(x d:AV):Q4:=
 match P.underlying t,x,wM d with
 |some (.slice e),.sl id c len _,some k=>
  match sizeT P e with
  |some b=>if 0<=k/\k<len then some (.p id (c+k.toNat*b))else none
  |none=>none
 |some (.array len e),.p id c,some k=>
  match sizeT P e with
  |some b=>if 0<=k/\k<len then some (.p id (c+k.toNat*b))else none
  |none=>none
 |some (.slice e),.ro l,some k=>
  match sizeT P e with
  |some b=>if 0<=k then match l[k.toNat]? with
   |some a=>if a.cells.length=b then some (.rp a 0)else none
   |none=>none
   else none
  |none=>none
 |some (.array len e),.rp a c,some k=>
  match sizeT P e with
  |some b=>if 0<=k/\k<len then some (.rp a (c+k.toNat*b))else none
  |none=>none
 |_,_,_=>none
def Fb(P:Program)(t:TypeId)(x b:AV):Q4:=
 match P.underlying t,x,wM b with
 |some .string,.s s,some k=>
  if 0<=k then match s[k.toNat]? with
   |some c=>some (.i .u8 c.toNat)
   |none=>none
  else none
 |some (.array len e),.agg d,some k=>
  match sizeT P e with
  |some a=>if 0<=k/\k<len then RU P e d (k.toNat*a)else none
  |none=>none
 |_,_,_=>none
def yM(P:Program)(src dst:TypeId)(x:AV)(J:aC):Wd:=
 match P.underlying src,P.underlying dst,x with
 |some _,some (.int k),.i _ n=>some (.i k (k.wrap n),J)
 |some .string,some .string,.s s=>some (.s s,J)
 |some .string,some (.slice e),.s s=>
  match P.underlying e with
  |some (.int .u8)=>if e≠0/\sizeT P e=some 1 then some (.sl J.next 0 s.length none,J.new (.cells (wU s) e true true))else none
  |_=>none
 |some (.slice e),some .string,.gy=>
  match P.underlying e with
  |some (.int .u8)=>some (.s [],J)
  |_=>none
 |some (.slice e),some .string,.sl id a len _=>
  match P.underlying e,J.get id with
  |some (.int .u8),some (.cells c _ _ _)=>match takeN c a len with
   |some r=>(bytesOf r).map λb=>(.s b,J)
   |none=>none
  |_,_=>none
 |some (.slice e),some .string,.ro l=>
  match P.underlying e with
  |some (.int .u8)=>(bytesOf l).map λb=>(.s b,J)
  |_=>none
 |some (.pointer t),some .unsafePointer,.p id a=>
  match J.get id,sizeT P t with
  |some (.cells c d _ false),some n=>if d≠0/\a<c.length/\n≠0 then some (.p id a,J)else none
  |_,_=>none
 |some .unsafePointer,some (.pointer u),.p id a=>
  match J.get id,sizeT P u with
  |some (.cells c d _ false),some _=>if d≠0/\liesAt P P.depth d (c.length/P.cellsOf d) a u 1=true then some (.p id a,J)else none
  |_,_=>none
 |_,_,_=>none
def Tz(e:BinOp)(a b c d:Int):Q4:=
 match e with
 |.lss=>if b<c then some (.b true)else if d<=a then some (.b false)else none
 |.leq=>if b<=c then some (.b true)else if d<a then some (.b false)else none
 |.gtr=>if d<a then some (.b true)else if b<=c then some (.b false)else none
 |.geq=>if d<=a then some (.b true)else if b<c then some (.b false)else none
 |.eql=>if b<c\/d<a then some (.b false)else none
 |.neq=>if b<c\/d<a then some (.b true)else none
 |_=>none
def uq(P:Program)(g:BinOp)(t:TypeId)(x y:Operand)(a b:AV):Q4:=
 match g,a,b with
 |.eql,.p id d,.p f c=>match P.underlying t with
  |some (.pointer e)=>match sizeT P e with
   |some n=>if id=f/\n≠0 then some (.b (d==c))else none
   |none=>none
  |_=>none
 |.neq,.p id d,.p f c=>match P.underlying t with
  |some (.pointer e)=>match sizeT P e with
   |some n=>if id=f/\n≠0 then some (.b (!(d==c)))else none
   |none=>none
  |_=>none
 |.eql,.p _ _,.jH|.eql,.jH,.p _ _=>match P.underlying t with
  |some (.pointer _)=>some (.b false)
  |_=>none
 |.neq,.p _ _,.jH|.neq,.jH,.p _ _=>match P.underlying t with
  |some (.pointer _)=>some (.b true)
  |_=>none
 |.eql,.ro (_::_),.gy|.eql,.gy,.ro (_::_)=>match P.underlying t with
  |some (.slice _)=>some (.b false)
  |_=>none
 |.neq,.ro (_::_),.gy|.neq,.gy,.ro (_::_)=>match P.underlying t with
  |some (.slice _)=>some (.b true)
  |_=>none
 |.eql,.rp _ _,.jH|.eql,.jH,.rp _ _=>match P.underlying t with
  |some (.pointer _)=>some (.b false)
  |_=>none
 |.neq,.rp _ _,.jH|.neq,.jH,.rp _ _=>match P.underlying t with
  |some (.pointer _)=>some (.b true)
  |_=>none
 |.eql,.sl ..,.gy|.eql,.gy,.sl ..=>match P.underlying t with
  |some (.slice _)=>some (.b false)
  |_=>none
 |.neq,.sl ..,.gy|.neq,.gy,.sl ..=>match P.underlying t with
  |some (.slice _)=>some (.b true)
  |_=>none
 |.eql,.jh _ _,.sZ|.eql,.sZ,.jh _ _=>match P.underlying t with
  |some (.interface _)=>some (.b false)
  |_=>none
 |.neq,.jh _ _,.sZ|.neq,.sZ,.jh _ _=>match P.underlying t with
  |some (.interface _)=>some (.b true)
  |_=>none
 |.eql,.mp _,.pO|.eql,.pO,.mp _=>match P.underlying t with
  |some (.map _ _)=>some (.b false)
  |_=>none
 |.neq,.mp _,.pO|.neq,.pO,.mp _=>match P.underlying t with
  |some (.map _ _)=>some (.b true)
  |_=>none
 |_,.z k lo hi,.i h n=>if k=h then Tz g lo hi n n else none
 |_,.i k n,.z h lo hi=>if k=h then Tz g n n lo hi else none
 |_,_,_=>
  match xE a,xE b with
  |some u,some v=>(qG P (do eqGuard g t x y u v;binOp g t u v)).bind (lW 4)
  |_,_=>none
def ZO:AV->AV->Option Bool
 |.i k a,.i c b=>if k=c then some (a==b)else none
 |.s a,.s b=>some (a==b)
 |.b a,.b b=>some (a==b)
 |.z k lo hi,.i c b=>if k=c/\(b<lo\/hi<b)then some false else none
 |_,_=>none
def IC(k:AV):XS->Nat->Option (Option (Nat×AV))
 |[],_=>some none
 |e::es,i=>match ZO k e.1 with
  |some true=>some (some (i,e.2))
  |some false=>IC k es (i+1)
  |none=>none
def Ug(P:Program)(t:TypeId)(k:AV):Bool:=
 match P.underlying t,k with
 |some (.int _),.i _ _|some (.int _),.z _ _ _|some .string,.s _|some .bool,.b _=>true
 |_,_=>false
def RI(P:Program)(t:TypeId)(m k:AV)(ok:Bool)(J:aC):Q4:=
 match P.underlying t with
 |some (.map a b)=>
  match(match m with|.pO=>some []|.mp id=>(match J.get id with|some (.map es)=>some es|_=>none)|_=>none)with
  |some es=>
   if Ug P a k then
    match IC k es 0 with
    |some (some (_,v))=>some (if ok then .dU [v,.b true]else v)
    |some none=>
     match P.info? b with
     |some i=>match i.zero with
      |some z=>(lW 4 z).map λz=>if ok then .dU [z,.b false]else z
      |none=>none
     |none=>none
    |none=>none
   else none
  |none=>none
 |_=>none
def RP(P:Program)(t:TypeId)(m k v:AV)(J:aC):Option aC:=
 match P.underlying t,m with
 |some (.map a _),.mp id=>
  match J.get id with
  |some (.map es)=>
   if J.lock<=id/\Ug P a k then
    match IC k es 0 with
    |some (some (i,_))=>some (J.put id (.map (es.set i (k,v))))
    |some none=>some (J.put id (.map (es++[(k,v)])))
    |none=>none
   else none
  |_=>none
 |_,_=>none
def IX(P:Program)(t:TypeId):WP:=
 match P.underlying t with
 |some (.interface _)=>some true
 |some _=>some false
 |none=>none
def RX(P:Program)(x:AV)(t:TypeId)(ok:Bool):Q4:=
 match IX P t,x with
 |some false,.jh u v=>
  if u=t then some (if ok then .dU [v,.b true]else v)
  else if ok then match P.info? t with
   |some i=>match i.zero with
    |some z=>(lW 4 z).map λz=>.dU [z,.b false]
    |none=>none
   |none=>none
  else none
 |some false,.sZ=>
  if ok then match P.info? t with
   |some i=>match i.zero with
    |some z=>(lW 4 z).map λz=>.dU [z,.b false]
    |none=>none
   |none=>none
  else none
 |_,_=>none
def RS(it:AV)(J:aC):Wd:=
 match it with
 |.p id 0=>
  match J.get id with
  |some (.iter s pos)=>
   if J.lock<=id then
    if pos<s.length then
     let r:=Utf8.decode ⟨⟨s⟩⟩ pos
     some (.dU [.b true,.i .i64 pos,.i .i32 r.1],J.put id (.iter s (pos+r.2)))
    else some (.dU [.b false],J)
   else none
  |_=>none
 |_=>none
def XQ(P:Program)(b:Wr)(d x:AV)(J:aC):Wd:=
 match b[0]? with
 |some t=>
  match wZ P t,d with
  |some (_,a,_,_),.sl id f e _=>
   match zy J a x,J.get id with
   |some (n,new),some (.cells c h true g)=>
    let k:=Nat.min n e
    if a=0 then none else
    if J.lock<=id/\new.all AV.nT then
     (Aw c f (new.take (k*a))).map λi=>(.i .i64 k,J.put id (.cells i h true g))
    else none
   |_,_=>none
  |some (_,a,_,_),.gy=>match zy J a x with
   |some _=>some (.i .i64 0,J)
   |none=>none
  |_,_=>none
 |none=>none
def XP(P:Program)(t:TypeId)(x:AV)(J:aC):Wd:=
 match P.underlying t,x with
 |some (.slice _),.gy=>some (.dU [],J)
 |some (.slice _),.ro []=>some (.dU [],J)
 |some (.slice e),.sl id a n _=>
  if n=0 then some (.dU [],J)else
  match zC P e,J.get id with
  |some z,some (.cells c d true b)=>
   if J.lock<=id/\z.all AV.nT then
    (Aw c a (jC n z)).map λf=>(.dU [],J.put id (.cells f d true b))
   else none
  |_,_=>none
 |some (.map _ _),.pO=>some (.dU [],J)
 |some (.map _ _),.mp id=>match J.get id with
  |some (.map _)=>if J.lock<=id then some (.dU [],J.put id (.map []))else none
  |_=>none
 |_,_=>none
def YD(m c:Nat):Bool:=match gQ.nodes[m]?,gQ.nodes[c]? with
 |some (.ci k a),some (.ci d b)=>Nat.beq (kc k) (kc d)&&!(IW a b)
 |some (.cs a),some (.cs b)=>!(Bo a b)
 |_,_=>false
def Gs(n m:Nat):Wg->Bool
 |[]=>false
 |p::l=>(bif p.2 then(match gQ.nodes[p.1]? with
  |some (.bin .eql a b)=>Nat.beq n a&&YD m b
  |_=>false)else false) ||Gs n m l
def FM:BinOp->Option BinOp
 |.eql=>some .neq
 |.neq=>some .eql
 |.lss=>some .geq
 |.geq=>some .lss
 |.leq=>some .gtr
 |.gtr=>some .leq
 |_=>none
def Ld(c n m:Nat):Wg->Option Bool
 |[]=>none
 |p::l=>match gQ.nodes[p.1]? with
  |some (.bin a b d)=>bif Nat.beq n b&&Nat.beq m d&&Nat.beq (vV a) c then some p.2 else Ld c n m l
  |_=>Ld c n m l
def QA(c:BinOp)(n m:Nat):WP:=match FM c with
 |some a=>(Ld (vV a) n m gQ.dec).map λb=>!b
 |none=>none
def abK(x:Nd):WP:=match x with
 |.bin .eql n m=>bif Gs n m gQ.dec then some false else QA .eql n m
 |.bin .neq n m=>bif Gs n m gQ.dec then some true else QA .neq n m
 |.bin a n m=>QA a n m
 |_=>none
def kL(x:Nd):Q4:=
 match fK x with
 |some n=>match YH n with
  |some b=>some (.b b)
  |none=>match abK x with
   |some b=>some (.b b)
   |none=>some (.nd n)
 |none=>none
def iY:AV->Option Nat
 |.nd n=>some n
 |.i k n=>fK (.ci k n)
 |.b x=>fK (.cb x)
 |.s x=>fK (.cs x)
 |.gy=>fK (.ml [])
 |_=>none
def nodesOf:Q3->Option Q2
 |[]=>some []
 |a::l=>match iY a,nodesOf l with
  |some n,some r=>some (n::r)
  |_,_=>none
def Fg:AV->Option Nat
 |.agg l=>match nodesOf l with
  |some a=>fK (.mk a)
  |none=>none
 |_=>none
def vY:Nat->Nat->Nat->Bool
 |0,m,n=>Nat.beq m n
 |f+1,m,n=>Nat.beq m n ||match gQ.nodes[m]? with
  |some (.upd _ _ a _ _)=>vY f a n
  |some (.same a _)=>vY f a n
  |_=>false
def elemsOf(agg:Bool)(size:Nat):Nat->List AV->Option Q2
 |0,_=>some []
 |n+1,cs=>match(if agg then Fg (.agg (cs.take size))else(cs.head?).bind iY),elemsOf agg size n (cs.drop size)with
  |some a,some r=>some (a::r)
  |_,_=>none
def listOf(P:Program)(J:aC)(e:TypeId):AV->Option Nat
 |.nd n=>some n
 |.gy=>fK (.ml [])
 |.sv id n=>match J.get id with
  |some (.vec m et _)=>if Nat.beq e et&&vY 100 m n then some m else none
  |_=>none
 |.sl id off len _=>match J.get id,sizeT P e,nU P e with
  |some (.cells c et _ _),some size,some agg=>if Nat.beq e et&&((agg&&Nat.blt 0 size) ||Nat.beq size 1)then match takeN c off (len*size)with
   |some cs=>match elemsOf agg size len cs with
    |some a=>fK (.ml a)
    |none=>none
   |none=>none
   else none
  |_,_,_=>none
 |_=>none
def atb(a:AV):Bool:=
 match a with
 |.nd _|.rx _ _|.sv _ _|.pv _ _ _|.pd _ _=>true
 |_=>false
def abk(P:Program)(t:TypeId):QR:=
 match P.underlying t with
 |some (.int _)=>some 0
 |some .string=>some 1
 |some .bool=>some 2
 |_=>none
def MS(P:Program):List Field->Nat->Option Q2
 |[],_=>some []
 |f::fs,k=>if !(f.name == "_")&&Nat.beq f.offset k then match abk P f.type,MS P fs (k+1)with
  |some a,some r=>some (a::r)
  |_,_=>none
  else none
def Wy(P:Program)(c:BinOp)(t:TypeId)(a b:AV):Q4:=
 match P.underlying t with
 |some (.int _)|some .string=>match iY a,iY b with
  |some x,some y=>kL (.bin c x y)
  |_,_=>none
 |some .bool=>match iY a,iY b with
  |some x,some y=>kL (.Fq c x y)
  |_,_=>none
 |some (.struct d)=>if !(P.stoodInHeld t)&&!(P.eqGuardType P.depth t)then match MS P d.toList 0,Fg a,Fg b with
   |some e,some x,some y=>kL (.Fv c e x y)
   |_,_,_=>none
  else none
 |some (.pointer _)=>match c,a,b with
  |.eql,.rx _ _,.jH|.eql,.jH,.rx _ _=>some (.b false)
  |.neq,.rx _ _,.jH|.neq,.jH,.rx _ _=>some (.b true)
  |.eql,.pv _ _ _,.jH|.eql,.jH,.pv _ _ _=>some (.b false)
  |.neq,.pv _ _ _,.jH|.neq,.jH,.pv _ _ _=>some (.b true)
  |_,_,_=>none
 |_=>none
def NG(b:UnOp)(a:AV):Q4:=
 match a with
 |.nd n=>kL (.un b n)
 |_=>none
def WA(P:Program)(src dst:TypeId)(x:AV)(J:aC):Wd:=
 match P.underlying src,P.underlying dst,x with
 |some _,some (.int k),.nd n=>(kL (.conv k n)).map (·,J)
 |some .string,some .string,.nd n=>(kL (.GL n)).map (·,J)
 |some .string,some (.slice e),.nd n=>
  match P.underlying e with
  |some (.int .u8)=>if e≠0/\sizeT P e=some 1 then match fK (.bytes n)with
    |some m=>some (.sv J.next m,J.new (.vec m e false))
    |none=>none
   else none
  |_=>none
 |some (.slice e),some .string,x=>
  match P.underlying e with
  |some (.int .u8)=>match listOf P J e x with
    |some m=>(kL (.str m)).map (·,J)
    |none=>none
  |_=>none
 |_,_,_=>none
def ab8(P:Program)(t:TypeId)(x:AV):Q4:=
 match P.underlying t,x with
 |some .string,.nd n=>kL (.slen n)
 |some (.slice _),.nd n=>kL (.len n)
 |some (.slice _),.sv _ n=>kL (.len n)
 |_,_=>none
def dB(a:Q4):Q4:=
 match a with
 |some (.nd n)=>match YH n with
  |some b=>some (.b b)
  |none=>none
 |x=>x
def I5(i:Nat):Nat->Nat->Option AV
 |0,_=>none
 |c+1,j=>match kL (.Ah i j)with
  |some (.b true)=>some (.i .i64 j)
  |some (.b false)=>I5 i c (j+1)
  |some (.nd m)=>match dB (some (.nd m))with
   |some (.b true)=>some (.i .i64 j)
   |some (.b false)=>I5 i c (j+1)
   |_=>none
  |_=>none
def WC(P:Program)(t:TypeId)(x a:AV):Q4:=
 match P.underlying t with
 |some .string=>match iY x,iY a with
  |some n,some i=>kL (.GN n i)
  |_,_=>none
 |some (.array len _)=>match iY a with
  |some i=>match I5 i len 0 with
   |some k=>Fb P t x k
   |none=>none
  |none=>none
 |_=>none
def OA:Q4->Option Nat
 |none=>fK (.ci .i64 0)
 |some a=>iY a
def SE(x:Nd):Q4->Option Nat
 |none=>fK x
 |some a=>iY a
def QJ(P:Program)(t:TypeId)(x:AV)(lo hi:Q4):Q4:=
 match P.underlying t with
 |some .string=>match iY x with
  |some n=>match OA lo,SE (.slen n) hi with
   |some l,some h=>kL (.GU n l h)
   |_,_=>none
  |none=>none
 |some (.slice e)=>match x,sizeT P e with
  |.nd n,some a=>match OA lo,SE (.len n) hi with
   |some l,some h=>kL (.Ef a n l h)
   |_,_=>none
  |_,_=>none
 |_=>none
def WM(P:Program)(t:TypeId)(J:aC)(x:AV)(lo hi:Q4):Wd:=
 match P.underlying t,x with
 |some (.slice e),.sv id n=>match J.get id,sizeT P e with
  |some (.vec m b f),some a=>if Nat.beq e b&&vY 100 m n&&Nat.ble J.lock id then
    match lo with
    |none=>match OA none,SE (.len m) hi with
     |some z,some h=>(fK (.Ef a m z h)).map λk=>(.sv id k,J.put id (.vec k b f))
     |_,_=>none
    |some _=>(QJ P t (.nd m) lo hi).map (·,J.kill id)
   else none
  |_,_=>none
 |_,_=>none
def WB(P:Program)(t:TypeId)(x:AV)(f:Nat):Q4:=
 match P.underlying t with
 |some (.struct a)=>
  match a[f]? with
  |some c=>match sizeT P c.type with
   |some n=>if n=0 then none else match x with
    |.rx m b=>some (.rx m (b+c.offset))
    |.pv id m b=>some (.pv id m (b+c.offset))
    |_=>none
   |none=>none
  |none=>none
 |_=>none
def WE(P:Program)(J:aC)(t:TypeId)(x b:AV):Q4:=
 match P.underlying t with
 |some (.slice e)=>match sizeT P e,iY b with
  |some a,some i=>match x with
   |.nd n=>(fK (.at a n i)).map λm=>.rx m 0
   |.sv id n=>match J.get id with
    |some (.vec _ c _)=>if Nat.beq e c then(fK (.idx n i)).map λm=>.pv id m 0 else none
    |_=>none
   |.sl _ _ len _=>match I5 i len 0 with
    |some k=>yN P t x k
    |none=>none
   |_=>none
  |_,_=>none
 |some (.array len _)=>match iY b with
  |some i=>match I5 i len 0 with
   |some k=>yN P t x k
   |none=>none
  |none=>none
 |_=>none
def Ip(m:Nat):Nat->Nat->Option Q3
 |_,0=>some []
 |off,n+1=>match kL (.cell off m),Ip m (off+1) n with
  |some a,some r=>some (a::r)
  |_,_=>none
def QI(P:Program)(t:TypeId)(m off:Nat):Q4:=
 match nU P t with
 |some true=>match sizeT P t with
  |some n=>(Ip m off n).map .agg
  |none=>none
 |some false=>kL (.cell off m)
 |none=>none
def WG(P:Program)(t:TypeId)(J:aC)(a:AV):Q4:=
 match a with
 |.rx m b=>QI P t m b
 |.pv id i b=>match J.get id with
  |some (.vec m d _)=>match sizeT P d with
   |some c=>match fK (.at c m i)with
    |some x=>QI P t x b
    |none=>none
   |none=>none
  |_=>none
 |_=>none
def PX(P:Program)(b:TypeId)(k:AV):Option (Nat×Wf):=
 match P.underlying b,iY k with
 |some (.int a),some n=>match fK (.ci a 0)with
  |some z=>(fK (.bin .eql n z)).map λ_=>(n,some a)
  |none=>none
 |some .string,some n=>match fK (.cs [])with
  |some z=>(fK (.bin .eql n z)).map λ_=>(n,none)
  |none=>none
 |_,_=>none
def ZP(n:Nat)(e:AV):WP:=
 match iY e with
 |some m=>match(kL (.bin .eql n m))with
  |some (.b b)=>some b
  |some (.nd j)=>match dB (some (.nd j))with
   |some (.b b)=>some b
   |_=>none
  |_=>none
 |none=>none
def LD(n:Nat):XS->Nat->Option (Option (Nat×AV))
 |[],_=>some none
 |e::es,i=>match ZP n e.1 with
  |some true=>some (some (i,e.2))
  |some false=>LD n es (i+1)
  |none=>none
def QO(P:Program)(et:TypeId)(v:AV):Option (Nat×QR):=
 match nU P et with
 |some true=>match Fg v,sizeT P et with
  |some n,some k=>if Nat.beq v.cells.length k then some (n,some k)else none
  |_,_=>none
 |some false=>(iY v).map (·,none)
 |none=>none
def Mc:Wf->Option IntKind->Bool
 |none,none=>true
 |some a,some b=>Nat.beq (kc a) (kc b)
 |_,_=>false
def QK:QR->Option Nat->Bool
 |none,none=>true
 |some a,some b=>Nat.beq a b
 |_,_=>false
def QX(P:Program)(et:TypeId):Q4:=
 match P.info? et with
 |some i=>match i.zero with
  |some z=>lW 4 z
  |none=>none
 |none=>none
def WH(P:Program)(t:TypeId)(m k:AV)(ok:Bool)(J:aC):Q4:=
 match P.underlying t,m with
 |some (.map f a),.mp id=>
  match PX P f k,J.get id with
  |some (n,_),some (.map es)=>match LD n es 0 with
   |some (some (_,v))=>some (if ok then .dU [v,.b true]else v)
   |some none=>(QX P a).map λz=>if ok then .dU [z,.b false]else z
   |none=>none
  |some (n,c),some (.pmap es)=>
   if Mc c none then match LD n (es.map λe=>(AV.s e.1,e.2)) 0 with
    |some (some (_,v))=>some (if ok then .dU [v,.b true]else v)
    |some none=>(QX P a).map λz=>if ok then .dU [z,.b false]else z
    |none=>none
   else none
  |some (n,c),some (.smap j h i)=>
   if Mc c h then match(QX P a).bind (QO P a)with
    |some (z,d)=>if QK i d then match(fK (.Gm z j n)).bind λg=>QI P a g 0 with
     |some v=>if ok then match kL (.Gn j n)with
       |some b=>some (.dU [v,b])
       |none=>none
      else some v
     |none=>none
     else none
    |none=>none
   else none
  |_,_=>none
 |_,_=>none
def WJ(P:Program)(t:TypeId)(m k v:AV)(J:aC):Option aC:=
 match P.underlying t,m with
 |some (.map e f),.mp id=>
  if Nat.ble J.lock id then
   match PX P e k,QO P f v,J.get id with
   |some (n,a),some (u,b),some (.map [])=>match fK (.ml [])with
    |some j=>(fK (.Cb j n u)).map λc=>J.put id (.smap c a b)
    |none=>none
   |some (n,a),some (u,b),some (.smap j g d)=>if Mc a g&&QK b d then(fK (.Cb j n u)).map λc=>J.put id (.smap c a b)else none
   |_,_,_=>none
  else none
 |_,_=>none
def mapArg(v:AV):Bool:=match v with
 |.nd n=>(match gQ.nodes[n]? with
  |some (.len _)=>true
  |_=>false)
 |v=>(wM v).isSome
def WO(P:Program)(t:TypeId)(J:aC)(a v:AV):Option aC:=
 match a with
 |.pv id i c=>match J.get id with
  |some (.vec m d f)=>
   if J.lock<=id/\sizeT P t=some v.cells.length then
    match sizeT P d,nodesOf v.cells with
    |some b,some e=>match fK (.upd b c m i e)with
     |some g=>some (J.put id (.vec g d f))
     |none=>none
    |_,_=>none
   else none
  |_=>none
 |_=>none
def ab6(P:Program)(g:Wr)(s x:AV)(J:aC):Wd:=
 match g.toList with
 |[t,i]=>
  match wZ P t with
  |some (e,d,bytes,_)=>
   if d=0 then none else
   match(match P.underlying i with
    |some .string=>if d=1 then match iY x with
      |some n=>fK (.bytes n)
      |none=>none
     else none
    |some (.slice _)=>listOf P J e x
    |_=>none)with
   |none=>none
   |some b=>
    match s with
    |.gy=>match fK (.ml [])with
     |some a=>(fK (.app d bytes a b)).map λm=>(.sv J.next m,J.new (.vec m e true))
     |none=>none
    |.sv id n=>match J.get id with
     |some (.vec a h f)=>if Nat.beq h e&&vY 100 a n&&Nat.ble J.lock id then(fK (.app d bytes a b)).map λm=>(.sv J.next m,(J.kill id).new (.vec m e f))else none
     |_=>none
    |.sl id 0 0 (some 0)=>match J.get id with
     |some (.cells [] h true false)=>if Nat.beq h e&&Nat.ble J.lock id then match fK (.ml [])with
      |some a=>(fK (.app d bytes a b)).map λm=>(.sv J.next m,(J.kill id).new (.vec m e false))
      |none=>none
      else none
     |_=>none
    |.sl id 0 len none=>match J.get id with
     |some (.cells c h true true)=>if Nat.beq h e&&Nat.ble J.lock id&&Nat.beq c.length (len*d)then match listOf P J e (.sl id 0 len none)with
      |some a=>(fK (.app d bytes a b)).map λm=>(.sv J.next m,(J.kill id).new (.vec m e false))
      |none=>none
      else none
     |_=>none
    |_=>none
  |none=>none
 |_=>none
def Va(P:Program)(e:TypeId)(size len:Nat)(cs:Q3):QR:=
 if cs.any atb then
  match nU P e with
  |some a=>if((a&&Nat.blt 0 size) ||Nat.beq size 1)&&Nat.blt 0 len&&Nat.beq cs.length (len*size)then match elemsOf a size len cs with
   |some b=>fK (.ml b)
   |none=>none
   else none
  |none=>none
 else none
def Vb(P:Program)(J:aC)(e:TypeId)(size len:Nat)(cs:Q3):Q4×aC:=
 match Va P e size len cs with
 |some m=>(some (.sv J.next m),J.new (.vec m e false))
 |none=>(some (.sl J.next 0 len (some len)),J.new (.cells cs e true false))
def WI(P:Program)(t:TypeId)(len cap:AV)(J:aC):Wd:=
 match P.underlying t with
 |some (.slice d)=>match wZ P t,nU P d with
  |some (e,a,bytes,z),some b=>
   if a=0 then none else
   match(if b then Fg (.agg z)else(z.head?).bind iY),iY len,iY cap with
   |some f,some l,some c=>(fK (.rep a bytes f l c)).map λm=>(.sv J.next m,J.new (.vec m e false))
   |_,_,_=>none
  |_,_=>none
 |_=>none
def JL(P:Program)(b:Builtin)(a:Wr)(args:Q3)(J:aC):W4:=
 match b,args with
 |.len,[x]=>match a[0]? with
  |some t=>(ab8 P t x).map λv=>(some v,J)
  |none=>none
 |.append,[s,x]=>(ab6 P a s x J).map λr=>(some r.1,r.2)
 |.min,[x,y]=>match iY x,iY y with
  |some m,some n=>(kL (.mm false m n)).map λv=>(some v,J)
  |_,_=>none
 |.max,[x,y]=>match iY x,iY y with
  |some m,some n=>(kL (.mm true m n)).map λv=>(some v,J)
  |_,_=>none
 |.unsafeSliceData,[.sv id n]=>match J.get id with
  |some (.vec m _ true)=>if vY 100 m n then some (some (.pd id n),J)else none
  |_=>none
 |.unsafeString,[.pd id n,.nd k]=>
  match a.toList with
  |[t,_]=>
   match P.underlying t,J.get id with
   |some (.pointer e),some (.vec m c _)=>
    if c=e/\e≠0/\P.cellsOf e=1/\J.lock<=id then
     match gQ.nodes[k]? with
     |some (.len d)=>if vY 100 m n&&vY 100 m d then(kL (.str m)).map λv=>(some v,J.kill id)else none
     |_=>none
    else none
   |_,_=>none
  |_=>none
 |_,_=>none
def RQ(P:Program)(a:String)(J:aC):AV->Option (FuncId×AV)
 |.jh t v=>
  match P.info? t,P.underlying t with
  |some i,some d=>match i.methods.find? (·.name==a)with
   |some m=>match m.path.toList,m.func with
    |[],some (f,b)=>match d,b with
     |.pointer _,true=>some (f,v)
     |.pointer e,false=>match v with
      |.p id off=>(wO P e J (.p id off)).map λx=>(f,x)
      |_=>none
     |_,true=>none
     |_,false=>some (f,v)
    |_,_=>none
   |none=>none
  |_,_=>none
 |_=>none
abbrev Caller:=FuncId->List AV->aC->Option (AV×aC)
def dW(J:aC):Q4->Option (Q4×aC):=Option.map λv=>(some v,J)
def tJ:Wd->Option (Q4×aC):=Option.map λ(v,J)=>(some v,J)
def Nb:Option aC->Option (Q4×aC):=Option.map λJ=>(none,J)
def Hz(P:Program)(b:Builtin)(a:Wr)(args:Q3)(J:aC):W4:=
 match b,args with
 |.len,[x]=>match a[0]? with
  |some t=>dW J (RH P J t x)
  |none=>none
 |.append,[s,x]=>tJ (XO P a s x J)
 |.copy,[d,x]=>tJ (XQ P a d x J)
 |.clear,[x]=>match a[0]? with
  |some t=>tJ (XP P t x J)
  |none=>none
 |.cap,[x]=>match a[0]? with
  |some t=>match P.underlying t,x with
   |some (.slice _),.gy=>dW J (some (.i .i64 0))
   |some (.slice _),.sl _ _ _ (some c)=>dW J (some (.i .i64 c))
   |_,_=>none
  |none=>none
 |.unsafeSliceData,[.gy]=>dW J (some .jH)
 |.unsafeSliceData,[.sl id f n g]=>if n=0/\(g=none\/g=some 0)then none else dW J (some (.p id f))
 |.unsafeString,[x,.i .i64 n]=>
  match a.toList with
  |[t,_]=>
   if n=0 then(match x with
    |.jH=>dW J (some (.s []))
    |.p _ _=>dW J (some (.s []))
    |_=>none)
   else match x with
   |.p id f=>match P.underlying t,J.get id with
    |some (.pointer e),some (.cells c i true h)=>
     if i=e/\e≠0/\P.cellsOf e=1/\0<n/\n<2^62/\J.lock<=id then
      match takeN c f n.toNat with
      |some r=>match bytesOf r with
       |some b=>some (some (.s b),J.put id (.cells c i false h))
       |none=>none
      |none=>none
     else none
    |_,_=>none
   |_=>none
  |_=>none
 |.min,[x,y]=>match xE x,xE y with
  |some u,some v=>dW J ((qG P (Builtin.min_ #[] 0 #[u,v])).bind (lW 4))
  |_,_=>none
 |.max,[x,y]=>match xE x,xE y with
  |some u,some v=>dW J ((qG P (Builtin.max_ #[] 0 #[u,v])).bind (lW 4))
  |_,_=>none
 |.min,[x,y,z]=>match xE x,xE y,xE z with
  |some u,some v,some t=>dW J ((qG P (Builtin.min_ #[] 0 #[u,v,t])).bind (lW 4))
  |_,_,_=>none
 |_,_=>none
def ab7(b:Builtin)(args:Q3):Bool:=
 match b,args with
 |.append,.gy::_=>!(gQ.nodes.isEmpty)
 |_,_=>false
def kN{α:Type}(a:Option α)(b:Unit->Option α):Option α:=
 match a with
 |some x=>some x
 |none=>b ()
def vW{α:Type}{a:Option α}{b:Unit->Option α}{x:α}(h:kN a b=some x):a=some x\/b ()=some x:=by
 unfold kN at h;split at h
 ·exact .inl h
 ·exact .inr h
def vH(P:Program)(call:Caller)(o:Oper)(d:QP)(J:aC):W4:=
 match o.op with
 |.move x|.assign x=>dW J (d x)
 |.pick c a b=>match dB (d c)with
  |some (.b t)=>dW J (if t then d a else d b)
  |_=>none
 |.alloc t=>(zC P t).map λz=>(some (.p J.next 0),J.new (.cells z t true false))
 |.box t x=>(d x).map λv=>(some (.p J.next 0),J.new (.cells v.cells t true false))
 |.build t j=>match FW d j.toList with
  |some D=>dW J (Rz P t D)
  |none=>none
 |.buildSlice t len j=>
  match wZ P t,FW d j.toList with
  |some (e,g,_,z),some D=>
   if len*g>2^24 then none else
   match Ba (λi=>some (i*g,g)) (if len*g=0 then[]else jC len z) D with
   |some q=>some (Vb P J e g len q)
   |none=>none
  |_,_=>none
 |.load t a=>match d a with
  |some a=>dW J (kN (wO P t J a) λ_=>WG P t J a)
  |none=>none
 |.store t a x=>match d a,d x with
  |some a,some v=>Nb (kN (Fe P t J a v) λ_=>WO P t J a v)
  |_,_=>none
 |.nilCheck x=>match d x with
  |some (.p id n)=>dW J (some (.p id n))
  |some (.rp a n)=>dW J (some (.rp a n))
  |some (.rx m n)=>dW J (some (.rx m n))
  |some (.pv id m n)=>dW J (some (.pv id m n))
  |some (.fn f E q)=>dW J (some (.fn f E q))
  |_=>none
 |.binOp w t x y _=>match d x,d y with
  |some a,some b=>dW J (kN (uq P w t x y a b) λ_=>Wy P w t a b)
  |_,_=>none
 |.unOp w _ x=>match d x with
  |some a=>match xE a with
   |some u=>dW J ((qG P (Op.unary w u)).bind (lW 4))
   |none=>dW J (NG w a)
  |none=>none
 |.convert src A x=>match d x with
  |some a=>tJ (kN (yM P src A a J) λ_=>WA P src A a J)
  |none=>none
 |.makeInterface t x=>match d x,IX P t with
  |some a,some false=>dW J (some (.jh t a))
  |_,_=>none
 |.makeFunc (.func f) first p=>match BJ d first.toList,BJ d p.toList with
   |some E,some q=>dW J (some (.fn f E q))
   |_,_=>none
 |.makeMap t r=>match r with
  |none=>some (some (.mp J.next),J.new (.map []))
  |some h=>match d h,P.underlying t with
   |some v,some (.map _ _)=>if mapArg v then some (some (.mp J.next),J.new (.map []))else none
   |_,_=>none
 |.makeSlice t l c=>match d l,d c with
  |some l,some c=>tJ (kN (RN P t l c J) λ_=>WI P t l c J)
  |_,_=>none
 |.slice t x lo hi none=>match d x,Jv d lo,Jv d hi with
  |some v,some lo,some hi=>kN (dW J (kN (Bf P t J v lo hi) λ_=>QJ P t v lo hi)) λ_=>tJ (WM P t J v lo hi)
  |_,_,_=>none
 |.fieldAddr t x f=>match d x with
  |some a=>dW J (kN (RF P t a f) λ_=>WB P t a f)
  |none=>none
 |.field t x f=>match d x with
  |some a=>dW J (RD P t a f)
  |none=>none
 |.indexAddr t x F=>match d x,d F with
  |some a,some k=>dW J (kN (yN P t a k) λ_=>WE P J t a k)
  |_,_=>none
 |.index t x F=>match d x,d F with
  |some a,some k=>dW J (kN (Fb P t a k) λ_=>WC P t a k)
  |_,_=>none
 |.lookup t m k ok=>match d m,d k with
  |some m,some k=>dW J (kN (RI P t m k ok J) λ_=>WH P t m k ok J)
  |_,_=>none
 |.mapUpdate t m k v|.insert t m k v=>match d m,d k,d v with
  |some m,some k,some v=>Nb (kN (RP P t m k v J) λ_=>WJ P t m k v J)
  |_,_,_=>none
 |.range t x=>match P.underlying t,d x with
  |some .string,some (.s s)=>some (some (.p J.next 0),J.new (.iter s 0))
  |some (.map _ _),some .pO=>some (some (.p J.next 0),J.new (.iterM none))
  |some (.map _ _),some (.mp id)=>match J.get id with
   |some (.map _)=>some (some (.p J.next 0),J.new (.iterM (some id)))
   |_=>none
  |_,_=>none
 |.next G true=>match d G with
  |some a=>tJ (RS a J)
  |none=>none
 |.next G false=>match d G with
  |some (.p id 0)=>match J.get id with
   |some (.iterM none)=>some (some (.dU [.b false]),J)
   |some (.iterM (some m))=>match J.get m with
    |some (.map [])=>some (some (.dU [.b false]),J)
    |_=>none
   |_=>none
  |_=>none
 |.typeAssert x _ t ok=>match d x with
  |some a=>dW J (RX P a t ok)
  |none=>none
 |.extract x k=>match d x with
  |some (.dU l)=>dW J l[k]?
  |_=>none
 |.call c=>match BJ d c.args.toList with
  |some args=>
   match c.callee with
   |.builtin b=>bif ab7 b args then kN (JL P b c.argTypes args J) λ_=>Hz P b c.argTypes args J else kN (Hz P b c.argTypes args J) λ_=>JL P b c.argTypes args J
   |.value f=>match d f with
    |some (.fn f H p)=>tJ (call f (H++args++p) J)
    |_=>none
   |.invoke r B=>match(d r).bind (RQ P B J)with
    |some (f,x)=>tJ (call f (x::args) J)
    |none=>none
  |none=>none
 |_=>none
def YT(c:BinOp)(k:IntKind)(a b:Int):Q4:=
 match c with
 |.add=>some (.i k (k.wrap (a+b)))
 |.sub=>some (.i k (k.wrap (a-b)))
 |.mul=>some (.i k (k.wrap (a*b)))
 |.eql=>some (.b (a==b))
 |.neq=>some (.b (a !=b))
 |.lss=>some (.b (decide (a<b)))
 |.leq=>some (.b (decide (a<=b)))
 |.gtr=>some (.b (decide (a>b)))
 |.geq=>some (.b (decide (a>=b)))
 |_=>none
def YW(c:BinOp)(a b:Q0):Q4:=
 match c with
 |.add=>if a.length+b.length<=9223372036854775807 then some (.s (a++b))else none
 |.eql=>some (.b (a==b))
 |.neq=>some (.b (!(a==b)))
 |.lss=>some (.b (Op.bytesLess a b))
 |.leq=>some (.b (Op.bytesLess a b ||a==b))
 |.gtr=>some (.b (!(Op.bytesLess a b ||a==b)))
 |.geq=>some (.b (!(Op.bytesLess a b)))
 |_=>none
def YS(P:Program)(c:BinOp)(t:TypeId)(x y:Operand)(a b:AV):Q4:=
 match a with
 |.i k m=>match b with
  |.i d n=>if k=d then match YT c k m n with
    |some r=>some r
    |none=>uq P c t x y a b
   else uq P c t x y a b
  |_=>uq P c t x y a b
 |.s u=>match b with
  |.s v=>match YW c u v with
   |some r=>some r
   |none=>uq P c t x y a b
  |_=>uq P c t x y a b
 |_=>uq P c t x y a b
def toList_mk(l:Q0):(⟨⟨l⟩⟩:ByteArray).toList=l:=by rw[ByteArray.toList_eq]
def ap6{P:Program}{a:BinOp}{t:TypeId}{x y:Operand}{k:IntKind}{m n:Int}{r:AV}(h:YT a k m n=some r):uq P a t x y (.i k m) (.i k n)=some r:=by
 have b:∀v:Value,(do eqGuard a t x y (.int k m) (.int k n);binOp a t (.int k m) (.int k n):Sem Value)=.pure v->lW 4 v=some r->uq P a t x y (.i k m) (.i k n)=some r:=by
  intro v c d;have:uq P a t x y (.i k m) (.i k n)=(qG P (do eqGuard a t x y (.int k m) (.int k n);binOp a t (.int k m) (.int k n):Sem Value)).bind (lW 4):=by cases a<;>rfl
  rw[this,c];exact d
 cases a<;>simp only[YT,reduceCtorEq,aY]at h<;>subst h
 all_goals refine b _ (by simp only[eqGuard,binOp,ne_eq,not_true_eq_false,if_false,Op.intArith,Op.intCmp];rfl) rfl
def adR(a b:Q0):((⟨⟨a⟩⟩:ByteArray)++⟨⟨b⟩⟩)=⟨⟨a++b⟩⟩:=by apply ByteArray.ext;rw[ByteArray.data_append];simp
def aqy{P:Program}{a:BinOp}{t:TypeId}{x y:Operand}{u v:Q0}{r:AV}(h:YW a u v=some r):uq P a t x y (.s u) (.s v)=some r:=by
 have b:∀z:Value,(do eqGuard a t x y (.string ⟨⟨u⟩⟩) (.string ⟨⟨v⟩⟩);binOp a t (.string ⟨⟨u⟩⟩) (.string ⟨⟨v⟩⟩):Sem Value)=.pure z->lW 4 z=some r->uq P a t x y (.s u) (.s v)=some r:=by
  intro z c d;have:uq P a t x y (.s u) (.s v)=(qG P (do eqGuard a t x y (.string ⟨⟨u⟩⟩) (.string ⟨⟨v⟩⟩);binOp a t (.string ⟨⟨u⟩⟩) (.string ⟨⟨v⟩⟩):Sem Value)).bind (lW 4):=by cases a<;>rfl
  rw[this,c];exact d
 cases a<;>simp only[YW,reduceCtorEq,aY]at h
 case add=>
  split at h
  ·next e=>
   cases h;have:¬(((⟨⟨u⟩⟩:ByteArray).size+(⟨⟨v⟩⟩:ByteArray).size:Nat):Int)>IntKind.i64.max:=by
    show ¬((u.length+v.length:Nat):Int)>9223372036854775807
    omega
   exact b (.string ⟨⟨u++v⟩⟩) (by simp only[eqGuard,binOp,Op.stringOp,aj this,adR];rfl) rfl
  ·cases h
 all_goals subst h
 all_goals refine b _ (by simp only[eqGuard,binOp,Op.stringOp,toList_mk];rfl) rfl
def ap5(P:Program)(d:BinOp)(t:TypeId)(x y:Operand)(a b:AV):YS P d t x y a b=uq P d t x y a b:=by
 unfold YS;split
 ·split
  ·split
   ·next e=>
    subst e;split
    ·next r c=>exact(ap6 c).symm
    ·rfl
   ·rfl
  ·rfl
 ·split
  ·split
   ·next r c=>exact(aqy c).symm
   ·rfl
  ·rfl
 ·rfl
def fUn(P:Program)(J:aC)(b:UnOp)(a:AV):W4:=
 match b with
 |.not=>match a with
  |.b x=>some (some (.b (!x)),J)
  |_=>match xE a with
   |some u=>dW J ((qG P (Op.unary b u)).bind (lW 4))
   |none=>dW J (NG b a)
 |_=>match xE a with
  |some u=>dW J ((qG P (Op.unary b u)).bind (lW 4))
  |none=>dW J (NG b a)
def afE(_P:Program)(_call:Caller)(a:QP)(J:aC)(x:Operand):W4:=
 dW J (a x)
def ap7(_P:Program)(_call:Caller)(d:QP)(J:aC)(c:Operand)(a:Operand)(b:Operand):W4:=
 match dB (d c)with
  |some (.b t)=>dW J (if t then d a else d b)
  |_=>none
def aqh(P:Program)(_call:Caller)(_ev:QP)(J:aC)(t:TypeId):W4:=
 (zC P t).map λz=>(some (.p J.next 0),J.new (.cells z t true false))
def aqr(_P:Program)(_call:Caller)(a:QP)(J:aC)(t:TypeId)(x:Operand):W4:=
 (a x).map λv=>(some (.p J.next 0),J.new (.cells v.cells t true false))
def aqs(P:Program)(_call:Caller)(b:QP)(J:aC)(t:TypeId)(a:Array (Nat×Operand)):W4:=
 match FW b a.toList with
  |some c=>dW J (Rz P t c)
  |none=>none
def aqt(P:Program)(_call:Caller)(c:QP)(J:aC)(t:TypeId)(len:Nat)(b:Array (Nat×Operand)):W4:=
     match wZ P t,FW c b.toList with
    |some (e,a,_,z),some d=>
     if len*a>2^24 then none else
     match Ba (λi=>some (i*a,a)) (if len*a=0 then[]else jC len z) d with
     |some f=>some (Vb P J e a len f)
     |none=>none
    |_,_=>none
def aqu(P:Program)(_call:Caller)(b:QP)(J:aC)(t:TypeId)(a:Operand):W4:=
 match b a with
  |some a=>dW J (kN (wO P t J a) λ_=>WG P t J a)
  |none=>none
def aqv(P:Program)(_call:Caller)(b:QP)(J:aC)(t:TypeId)(a:Operand)(x:Operand):W4:=
 match b a,b x with
  |some a,some v=>Nb (kN (Fe P t J a v) λ_=>WO P t J a v)
  |_,_=>none
def aqw(_P:Program)(_call:Caller)(c:QP)(J:aC)(x:Operand):W4:=
 match c x with
  |some (.p id b)=>dW J (some (.p id b))
  |some (.rp a b)=>dW J (some (.rp a b))
  |some (.rx m b)=>dW J (some (.rx m b))
  |some (.pv id m b)=>dW J (some (.pv id m b))
  |some (.fn f d e)=>dW J (some (.fn f d e))
  |_=>none
def YV(P:Program)(_call:Caller)(c:QP)(J:aC)(d:BinOp)(t:TypeId)(x:Operand)(y:Operand):W4:=
 match c x,c y with
  |some a,some b=>dW J (kN (YS P d t x y a b) λ_=>Wy P d t a b)
  |_,_=>none
def YU(P:Program)(_call:Caller)(b:QP)(J:aC)(c:UnOp)(x:Operand):W4:=
 match b x with
  |some a=>fUn P J c a
  |none=>none
def ap8(P:Program)(_call:Caller)(b:QP)(J:aC)(src:TypeId)(dst:TypeId)(x:Operand):W4:=
 match b x with
  |some a=>tJ (kN (yM P src dst a J) λ_=>WA P src dst a J)
  |none=>none
def ap9(P:Program)(_call:Caller)(b:QP)(J:aC)(t:TypeId)(x:Operand):W4:=
 match b x,IX P t with
  |some a,some false=>dW J (some (.jh t a))
  |_,_=>none
def aqa(_P:Program)(_call:Caller)(b:QP)(J:aC)(f:FuncId)(first:Array Operand)(a:Array Operand):W4:=
 match BJ b first.toList,BJ b a.toList with
  |some c,some d=>dW J (some (.fn f c d))
  |_,_=>none
def aqb(P:Program)(_call:Caller)(a:QP)(J:aC)(t:TypeId)(r:Option Operand):W4:=
 match r with
  |none=>some (some (.mp J.next),J.new (.map []))
  |some h=>match a h,P.underlying t with
   |some v,some (.map _ _)=>if mapArg v then some (some (.mp J.next),J.new (.map []))else none
   |_,_=>none
def aqc(P:Program)(_call:Caller)(a:QP)(J:aC)(t:TypeId)(l:Operand)(c:Operand):W4:=
 match a l,a c with
  |some l,some c=>tJ (kN (RN P t l c J) λ_=>WI P t l c J)
  |_,_=>none
def aqd(P:Program)(_call:Caller)(a:QP)(J:aC)(t:TypeId)(x:Operand)(lo:Option Operand)(hi:Option Operand):W4:=
 match a x,Jv a lo,Jv a hi with
  |some v,some lo,some hi=>kN (dW J (kN (Bf P t J v lo hi) λ_=>QJ P t v lo hi)) λ_=>tJ (WM P t J v lo hi)
  |_,_,_=>none
def aqe(P:Program)(_call:Caller)(b:QP)(J:aC)(t:TypeId)(x:Operand)(f:Nat):W4:=
 match b x with
  |some a=>dW J (kN (RF P t a f) λ_=>WB P t a f)
  |none=>none
def aqf(P:Program)(_call:Caller)(b:QP)(J:aC)(t:TypeId)(x:Operand)(f:Nat):W4:=
 match b x with
  |some a=>dW J (RD P t a f)
  |none=>none
def aqg(P:Program)(_call:Caller)(b:QP)(J:aC)(t:TypeId)(x:Operand)(c:Operand):W4:=
 match b x,b c with
  |some a,some k=>dW J (kN (yN P t a k) λ_=>WE P J t a k)
  |_,_=>none
def aqi(P:Program)(_call:Caller)(b:QP)(J:aC)(t:TypeId)(x:Operand)(c:Operand):W4:=
 match b x,b c with
  |some a,some k=>dW J (kN (Fb P t a k) λ_=>WC P t a k)
  |_,_=>none
def aqj(P:Program)(_call:Caller)(a:QP)(J:aC)(t:TypeId)(m:Operand)(k:Operand)(ok:Bool):W4:=
 match a m,a k with
  |some m,some k=>dW J (kN (RI P t m k ok J) λ_=>WH P t m k ok J)
  |_,_=>none
def afF(P:Program)(_call:Caller)(a:QP)(J:aC)(t:TypeId)(m:Operand)(k:Operand)(v:Operand):W4:=
 match a m,a k,a v with
  |some m,some k,some v=>Nb (kN (RP P t m k v J) λ_=>WJ P t m k v J)
  |_,_,_=>none
def aqk(P:Program)(_call:Caller)(a:QP)(J:aC)(t:TypeId)(x:Operand):W4:=
 match P.underlying t,a x with
  |some .string,some (.s s)=>some (some (.p J.next 0),J.new (.iter s 0))
  |some (.map _ _),some .pO=>some (some (.p J.next 0),J.new (.iterM none))
  |some (.map _ _),some (.mp id)=>match J.get id with
   |some (.map _)=>some (some (.p J.next 0),J.new (.iterM (some id)))
   |_=>none
  |_,_=>none
def aql(_P:Program)(_call:Caller)(b:QP)(J:aC)(it:Operand):W4:=
 match b it with
  |some a=>tJ (RS a J)
  |none=>none
def aqm(_P:Program)(_call:Caller)(a:QP)(J:aC)(it:Operand):W4:=
 match a it with
  |some (.p id 0)=>match J.get id with
   |some (.iterM none)=>some (some (.dU [.b false]),J)
   |some (.iterM (some m))=>match J.get m with
    |some (.map [])=>some (some (.dU [.b false]),J)
    |_=>none
   |_=>none
  |_=>none
def aqn(P:Program)(_call:Caller)(b:QP)(J:aC)(x:Operand)(t:TypeId)(ok:Bool):W4:=
 match b x with
  |some a=>dW J (RX P a t ok)
  |none=>none
def aqo(_P:Program)(_call:Caller)(a:QP)(J:aC)(x:Operand)(k:Nat):W4:=
 match a x with
  |some (.dU l)=>dW J l[k]?
  |_=>none
def aqp(P:Program)(call:Caller)(e:QP)(J:aC)(c:Call):W4:=
 match BJ e c.args.toList with
  |some args=>
   match c.callee with
   |.builtin b=>bif ab7 b args then kN (JL P b c.argTypes args J) λ_=>Hz P b c.argTypes args J else kN (Hz P b c.argTypes args J) λ_=>JL P b c.argTypes args J
   |.value f=>match e f with
    |some (.fn f g a)=>tJ (call f (g++args++a) J)
    |_=>none
   |.invoke r d=>match(e r).bind (RQ P d J)with
    |some (f,x)=>tJ (call f (x::args) J)
    |none=>none
  |none=>none
structure OpW where
 f:Program->Caller->(QP)->aC->Option (Q4×aC)
def opF(o:Op):OpW:=
 Op.casesOn (motive:=λ_=>OpW) o
  (λx=>⟨λP call d J=>afE P call d J x⟩)
  (λx=>⟨λP call d J=>afE P call d J x⟩)
  (λc a b=>⟨λP call d J=>ap7 P call d J c a b⟩)
  (λt=>⟨λP call d J=>aqh P call d J t⟩)
  (λt x=>⟨λP call d J=>aqr P call d J t x⟩)
  (λt e=>⟨λP call d J=>aqs P call d J t e⟩)
  (λt len e=>⟨λP call d J=>aqt P call d J t len e⟩)
  (λt m k v=>⟨λP call d J=>afF P call d J t m k v⟩)
  (λt a=>⟨λP call d J=>aqu P call d J t a⟩)
  (λt a x=>⟨λP call d J=>aqv P call d J t a x⟩)
  (λ_=>⟨λ_P _call _ev _J=>none⟩)
  (λ_=>⟨λ_P _call _ev _J=>none⟩)
  (λx=>⟨λP call d J=>aqw P call d J x⟩)
  (λh t x y _=>⟨λP call d J=>YV P call d J h t x y⟩)
  (λh _ x=>⟨λP call d J=>YU P call d J h x⟩)
  (λsrc i x=>⟨λP call d J=>ap8 P call d J src i x⟩)
  (λ_ _=>⟨λ_P _call _ev _J=>none⟩)
  (λt x=>⟨λP call d J=>ap9 P call d J t x⟩)
  (λfn first g=>⟨λP call d J=>match fn with|.func f=>aqa P call d J f first g|_=>none⟩)
  (λt r=>⟨λP call d J=>aqb P call d J t r⟩)
  (λ_ _=>⟨λ_P _call _ev _J=>none⟩)
  (λt l c=>⟨λP call d J=>aqc P call d J t l c⟩)
  (λt x lo hi p=>⟨λP call d J=>match p with|none=>aqd P call d J t x lo hi|some _=>none⟩)
  (λt x f=>⟨λP call d J=>aqe P call d J t x f⟩)
  (λt x f=>⟨λP call d J=>aqf P call d J t x f⟩)
  (λt x j=>⟨λP call d J=>aqg P call d J t x j⟩)
  (λt x j=>⟨λP call d J=>aqi P call d J t x j⟩)
  (λt m k ok=>⟨λP call d J=>aqj P call d J t m k ok⟩)
  (λt m k v=>⟨λP call d J=>afF P call d J t m k v⟩)
  (λ_ _ _=>⟨λ_P _call _ev _J=>none⟩)
  (λ_ _ _ _=>⟨λ_P _call _ev _J=>none⟩)
  (λt x=>⟨λP call d J=>aqk P call d J t x⟩)
  (λn b=>⟨λP call d J=>bif b then aql P call d J n else aqm P call d J n⟩)
  (λ_=>⟨λ_P _call _ev _J=>none⟩)
  (λx _ t ok=>⟨λP call d J=>aqn P call d J x t ok⟩)
  (λx k=>⟨λP call d J=>aqo P call d J x k⟩)
  (λc=>⟨λP call d J=>aqp P call d J c⟩)
  (λ_=>⟨λ_P _call _ev _J=>none⟩)
  (λ_=>⟨λ_P _call _ev _J=>none⟩)
  (λ_=>⟨λ_P _call _ev _J=>none⟩)
  (λ_ _=>⟨λ_P _call _ev _J=>none⟩)
  (λ_ _ _=>⟨λ_P _call _ev _J=>none⟩)
  (λ_ _=>⟨λ_P _call _ev _J=>none⟩)
def Ac(P:Program)(call:Caller)(o:Oper)(a:QP)(J:aC):W4:=(opF o.op).f P call a J
def aqz(P:Program)(J:aC)(b:UnOp)(a:AV):fUn P J b a=match xE a with
 |some u=>dW J ((qG P (Op.unary b u)).bind (lW 4))
 |none=>dW J (NG b a):=by
 cases b<;>first|rfl|skip
 cases a<;>rfl
def DV(P:Program)(call:Caller)(o:Oper)(c:QP)(J:aC):Ac P call o c J=vH P call o c J:=by
 obtain⟨f,a,e,pos,d,guard⟩:=o;cases a with
 |binOp a t x y _=>
  show YV P call c J a t x y=_
  simp only[YV,ap5,vH]
 |unOp a _ x=>
  show YU P call c J a x=_
  simp only[YU,aqz,vH]
 |slice t x lo hi g=>cases g<;>rfl
 |makeFunc fn _ _=>cases fn<;>rfl
 |next h b=>cases b<;>rfl
 |_=>rfl
def J4(o:Oper)(c:W5)(a:bF):WP:=
 match o.guard with
 |none=>some true
 |some (j,b)=>
  match c[j]? with
  |some q=>match q.dst with
   |some d=>match dB (a.t.get d)with
    |some (.b x)=>some (x==b)
    |some (.dU _)=>some false
    |_=>none
   |none=>none
  |none=>none
def XV(P:Program)(call:Caller)(b:W5)(i:Nat)(a:bF)(J:aC):Option (bF×aC):=
 match b[i]? with
 |none=>none
 |some o=>
  match J4 o b a with
  |none=>none
  |some false=>(a.put o.dst (some (.dU []))).map (·,J)
  |some true=>
   match Ac P call o a.eval J with
   |none=>none
   |some (v,c)=>(a.put o.dst v).map (·,c)
def KO(P:Program)(call:Caller)(b:W5):Q2->bF->aC->Option (bF×aC)
 |[],a,J=>some (a,J)
 |i::rest,a,J=>
  match XV P call b i a J with
  |some (c,J')=>KO P call b rest c J'
  |none=>none
inductive eH where
 |normal
 |exit (id:Nat)
 |ret
abbrev Wb:=Option (eH×bF×aC)
def Bd(P:Program)(J:aC)(a:bF):List ResultVar->Option Q3
 |[]=>some []
 |.tmp t::rs=>match a.t.get t,Bd P J a rs with
  |some v,some r=>some (v::r)
  |_,_=>none
 |.cell t ty::rs=>match(a.t.get t).bind (wO P ty J),Bd P J a rs with
  |some v,some r=>some (v::r)
  |_,_=>none
def JR:Q3->AV
 |[v]=>v
 |l=>.dU l
def zT:Q3->Nat->Tr AV->Tr AV
 |[],_,t=>t
 |v::vs,k,t=>zT vs (k+1) (t.set k (some v))
abbrev AO:=W5->bF->aC->Option (bF×aC)
abbrev xU:=FuncId->Option (Q3->aC->Option (AV×aC))
def Il(P:Program)(d:xU)(run:Code->bF->aC->Option (eH×bF×aC)):Caller:=λf args J=>
 match d f with
 |some g=>g args J
 |none=>
  match P.funcs[f]? with
  |none=>none
  |some fn=>match fn.body with
   |none=>none
   |some c=>
    match run c {t:=zT args 0 .nil,n:=max args.length fn.ntmps,gn:=P.globals.size} J with
    |some (.normal,b,a)|some (.ret,b,a)=>(Bd P a b fn.results.toList).map λl=>(JR l,a)
    |_=>none
def uG(P:Program)(i:Caller->AO)(h:xU)(run:Code->bF->aC->Option (eH×bF×aC))(c:Code)(a:bF)(J:aC):Wb:=
 match c with
 |.skip=>some (.normal,a,J)
 |.region _ d false=>(KO P (Il P h run) d (List.range d.size) a J).map λ(a,J)=>(.normal,a,J)
 |.region _ d true=>(i (Il P h run) d a J).map λ(a,J)=>(.normal,a,J)
 |.seq x y=>
  match run x a J with
  |some (.normal,e,f)=>run y e f
  |r=>r
 |.cond x y z=>
  match dB (a.eval x)with
  |some (.b t)=>run (if t then y else z) a J
  |_=>none
 |.block id b=>
  match run b a J with
  |some (.exit g,e,f)=>if g=id then some (.normal,e,f)else some (.exit g,e,f)
  |r=>r
 |.loop b=>
  match run b a J with
  |some (.normal,e,f)=>run (.loop b) e f
  |r=>r
 |.exit id=>some (.exit id,a,J)
 |.ret=>some (.ret,a,J)
 |_=>none
structure zH where
 f:Program->(Caller->AO)->xU->(Code->bF->aC->Option (eH×bF×aC))->bF->aC->Option (eH×bF×aC)
def alW:zH:=⟨λ_ _ _ _ a J=>some (.normal,a,J)⟩
def alP(b:W5)(d:Bool):zH:=bif d then⟨λP e c run a J=>(e (Il P c run) b a J).map λ(a,J)=>(.normal,a,J)⟩
 else⟨λP _ c run a J=>(KO P (Il P c run) b (List.range b.size) a J).map λ(a,J)=>(.normal,a,J)⟩
def alV(x y:Code):zH:=⟨λ_ _ _ run a J=>match run x a J with
    |some (.normal,b,c)=>run y b c
    |r=>r⟩
def alM(x:Operand)(y z:Code):zH:=⟨λ_ _ _ run a J=>match dB (a.eval x)with
    |some (.b t)=>run (if t then y else z) a J
    |_=>none⟩
def alL(id:Nat)(b:Code):zH:=⟨λ_ _ _ run a J=>match run b a J with
    |some (.exit c,d,e)=>if c=id then some (.normal,d,e)else some (.exit c,d,e)
    |r=>r⟩
def alO(b:Code):zH:=⟨λ_ _ _ run a J=>match run b a J with
    |some (.normal,c,d)=>run (.loop b) c d
    |r=>r⟩
def alN(id:Nat):zH:=⟨λ_ _ _ _ a J=>some (.exit id,a,J)⟩
def alQ:zH:=⟨λ_ _ _ _ a J=>some (.ret,a,J)⟩
def OT:zH:=⟨λ_ _ _ _ _ _=>none⟩
def codeF(c:Code):zH:=
 Code.casesOn (motive:=λ_=>zH) c
  alW
  (λ_ a d=>alP a d)
  (λx y=>alV x y)
  (λx y z=>alM x y z)
  (λid b=>alL id b)
  (λb=>alO b)
  (λ_ _ _ _=>OT)
  (λid=>alN id)
  (λ_=>OT)
  (λ_=>OT)
  (λ_=>OT)
  alQ
  (λ_=>OT)
def codeF_eq(P:Program)(b:Caller->AO)(e:xU)(run:Code->bF->aC->Option (eH×bF×aC))(c:Code)(a:bF)(J:aC):(codeF c).f P b e run a J=uG P b e run c a J:=by
 cases c with
 |region id f d=>cases d<;>rfl
 |_=>rfl
def E9(P:Program)(b:Caller->AO)(d:xU)(n:Nat):Code->bF->aC->Option (eH×bF×aC):=
 Nat.rec (motive:=λ_=>Code->bF->aC->Option (eH×bF×aC)) (λ_ _ _=>none) (λ_ run c a J=>(codeF c).f P b d run a J) n
def adI(P:Program)(b:Caller->AO)(d:xU)(c:Code)(a:bF)(J:aC):E9 P b d 0 c a J=none:=rfl
def wK(P:Program)(b:Caller->AO)(d:xU)(n:Nat)(c:Code)(a:bF)(J:aC):E9 P b d (n+1) c a J=uG P b d (E9 P b d n) c a J:=codeF_eq P b d _ c a J
def adH(P:Program)(b:Caller->AO)(a:xU)(n:Nat):Caller:=Il P a (E9 P b a n)
end
noncomputable section
variable[aJ]
def KL{F:Env}:∀{l:Q3}{vs:Q6},aG F l vs↔l.length=vs.length/\∀(k:Nat) a x,l[k]? =some a->vs[k]? =some x->VR F a x
 |[],vs=>by
  simp only[aG];constructor
  ·rintro rfl;simp
  ·rintro⟨h,_⟩;cases vs with
   |nil=>rfl
   |cons _ _=>simp at h
 |a::l,vs=>by
  simp only[aG];constructor
  ·rintro⟨x,xs,rfl,h1,g⟩
   have e:=(KL (l:=l) (vs:=xs)).1 g;refine⟨by simp[e.1],?_⟩;intro k b y c d;cases k with
   |zero=>simp at c d;subst c;subst d;exact h1
   |succ k=>simp at c d;exact e.2 k b y c d
  ·rintro⟨f,h⟩
   cases vs with
   |nil=>simp at f
   |cons x xs=>refine⟨x,xs,rfl,h 0 a x aA aA,(KL (l:=l) (vs:=xs)).2 ⟨by simpa using f,?_⟩⟩;intro k b y c d;exact h (k+1) b y (by simpa using c) (by simpa using d)
def aG.length{F:Env}{l:Q3}{vs:Q6}(h:aG F l vs):l.length=vs.length:=(KL.1 h).1
def aG.at{F:Env}{l:Q3}{vs:Q6}(h:aG F l vs){k:Nat}{a:AV}(b:l[k]? =some a):∃x,vs[k]? =some x/\VR F a x:=by have c:=KL.1 h;obtain⟨d,rfl⟩:=fH.1 b;have:k<vs.length:=ah;exact⟨vs[k],bT this,c.2 k _ _ b (bT this)⟩
def aG.of{F:Env}{l:Q3}{vs:Q6}(c:l.length=vs.length)(h:∀(k:Nat) a,l[k]? =some a->∃x,vs[k]? =some x/\VR F a x):aG F l vs:=
 KL.2 ⟨c,λk a x d e=>by obtain⟨y,b,f⟩:=h k a d;rw[e]at b;cases b;exact f⟩
def aG.append{F:Env}{l c:Q3}{vs b:Q6}(h:aG F l vs)(d:aG F c b):aG F (l++c) (vs++b):=by
 induction l generalizing vs with
 |nil=>simp only[aG]at h;subst h;simpa using d
 |cons a l e=>simp only[aG]at h;obtain⟨x,f,rfl,g,i⟩:=h;exact⟨x,f++b,rfl,g,e i⟩
def aG.take{F:Env}{l:Q3}{vs:Q6}(h:aG F l vs)(n:Nat):aG F (l.take n) (vs.take n):=by
 induction n generalizing l vs with
 |zero=>simp[aG]
 |succ n b=>cases l with
  |nil=>simp only[aG]at h;subst h;simp[aG]
  |cons a l=>simp only[aG]at h;obtain⟨x,c,rfl,d,e⟩:=h;exact⟨x,c.take n,aA,d,b e⟩
def aG.drop{F:Env}{l:Q3}{vs:Q6}(h:aG F l vs)(n:Nat):aG F (l.drop n) (vs.drop n):=by
 induction n generalizing l vs with
 |zero=>simpa using h
 |succ n b=>cases l with
  |nil=>simp only[aG]at h;subst h;simp[aG]
  |cons a l=>simp only[aG]at h;obtain⟨x,d,rfl,e,c⟩:=h;simpa using b c
def aG.cons{F:Env}{a:AV}{l:Q3}{x:Value}{vs:Q6}(h:VR F a x)(b:aG F l vs):aG F (a::l) (x::vs):=⟨x,vs,rfl,h,b⟩
structure Env.le(F F':Env):Prop where
 pl:∀id q,F id=some q->F' id=some q
 ro:∀b o,F.ro b=some o->F'.ro b=some o
 gh:∀id,F.gh id=true->F'.gh id=true
def Env.le.refl(F:Env):F.le F:=⟨λ_ _ h=>h,λ_ _ h=>h,λ_ h=>h⟩
def Env.le.trans{a b c:Env}(h:a.le b)(d:b.le c):a.le c:=⟨λid q e=>d.pl id q (h.pl id q e),λb o f=>d.ro b o (h.ro b o f),λid e=>d.gh id (h.gh id e)⟩
def Env.has(F:Env)(id:Nat):Prop:=(∃q,F id=some q)\/F.gh id=true
def Env.has.mono{F F':Env}{id:Nat}(h:F.has id)(a:F.le F'):F'.has id:=h.elim (λ⟨q,b⟩=>.inl ⟨q,a.pl _ _ b⟩) λc=>.inr (a.gh _ c)
mutual
def GR.mono{ro ro':Qf}(h:∀b o,ro b=some o->ro' b=some o):∀(a:GV)(v:Value),GR ro a v->GR ro' a v
 |.b _,_,d=>by simpa only[GR]using d
 |.i _ _,_,d=>by simpa only[GR]using d
 |.s _,_,d=>by simpa only[GR]using d
 |.g l,_,d=>by simp only[GR]at d⊢;obtain⟨x,e,h1⟩:=d;exact⟨x,e,aS.mono h l x h1⟩
 |.l j,_,d=>by
  simp only[GR]at d⊢;rcases d with d|⟨k,g,c,i,m,e,n,h1,p,q⟩
  ·exact .inl d
  exact .inr ⟨k,g,c,i,m,e,n,aS.mono h j i h1,p,λr=>by obtain⟨s,f,t,u,w⟩:=q r;exact⟨s,f,t,h _ _ u,w⟩⟩
def aS.mono{ro ro':Qf}(h:∀b o,ro b=some o->ro' b=some o):∀(l:Q1)(vs:Q6),aS ro l vs->aS ro' l vs
 |[],_,c=>by simpa only[aS]using c
 |a::l,_,c=>by simp only[aS]at c⊢;obtain⟨x,xs,e,h1,d⟩:=c;exact⟨x,xs,e,GR.mono h a x h1,aS.mono h l xs d⟩
end
mutual
def VR.mono{F F':Env}(h:F.le F'):∀(a:AV)(v:Value),VR F a v->VR F' a v
 |.b _,_,b=>by simpa only[VR]using b
 |.i _ _,_,b=>by simpa only[VR]using b
 |.s _,_,b=>by simpa only[VR]using b
 |.jH,_,b=>by simpa only[VR]using b
 |.p _ _,_,b=>by simp only[VR]at b⊢;obtain⟨q,m,e⟩:=b;exact⟨q,h.pl _ _ m,e⟩
 |.gy,_,b=>by simpa only[VR]using b
 |.sl _ _ _ _,_,b=>by simp only[VR]at b⊢;obtain⟨q,m,e⟩:=b;exact⟨q,h.pl _ _ m,e⟩
 |.pO,_,b=>by simpa only[VR]using b
 |.mp _,_,b=>by simp only[VR]at b⊢;obtain⟨q,m,e⟩:=b;exact⟨q,h.pl _ _ m,e⟩
 |.yZ,_,b=>by simpa only[VR]using b
 |.fn _ B o,_,b=>by simp only[VR]at b⊢;obtain⟨z,A,e,d,f⟩:=b;exact⟨z,A,e,aG.mono h B z d,aG.mono h o A f⟩
 |.sZ,_,b=>by simpa only[VR]using b
 |.jh _ a,_,b=>by simp only[VR]at b⊢;obtain⟨x,e,d⟩:=b;exact⟨x,e,VR.mono h a x d⟩
 |.agg l,_,b=>by simp only[VR]at b⊢;obtain⟨x,e,d⟩:=b;exact⟨x,e,aG.mono h l x d⟩
 |.dU l,_,b=>by simp only[VR]at b⊢;obtain⟨x,e,d⟩:=b;exact⟨x,e,aG.mono h l x d⟩
 |.z _ _ _,_,b=>by simpa only[VR]using b
 |.ro l,_,b=>by
  simp only[VR]at b⊢;rcases b with b|⟨s,w,c,r,D,e,E,d,f,n⟩
  ·exact .inl b
  refine .inr ?_;exact⟨s,w,c,r,D,e,E,aG.mono h l r d,f,λy=>by obtain⟨o,j,t,u,G⟩:=n y;exact⟨o,j,t,h.ro _ _ u,G⟩⟩
 |.rp a _,_,b=>by simp only[VR]at b⊢;obtain⟨s,base,o,j,t,x,d,f,n⟩:=b;exact⟨s,base,o,j,t,x,h.ro _ _ d,VR.mono h a x f,n⟩
 |.nd _,_,b=>by simp only[VR]at b⊢;obtain⟨g,d,f,n⟩:=b;exact⟨g,d,f,GR.mono h.ro _ _ n⟩
 |.rx _ _,_,b=>by simp only[VR]at b⊢;obtain⟨g,s,base,o,j,t,x,d,f,n,u⟩:=b;exact⟨g,s,base,o,j,t,x,d,h.ro _ _ f,GR.mono h.ro _ _ n,u⟩
 |.sv _ _,_,b=>by
  simp only[VR]at b⊢;obtain⟨r,d,⟨q,m,f⟩|⟨H,f⟩⟩:=b
  ·exact⟨r,d,.inl ⟨q,h.pl _ _ m,f⟩⟩
  ·exact⟨r,d,.inr ⟨h.gh _ H,f⟩⟩
 |.pv _ _ _,_,b=>by simp only[VR]at b⊢;obtain⟨q,k,i,m,f⟩:=b;exact⟨q,k,i,h.pl _ _ m,f⟩
 |.pd _ _,_,b=>by simp only[VR]at b⊢;obtain⟨r,p,d,f,n⟩:=b;exact⟨r,p,d,f,λy=>by obtain⟨q,m,u⟩:=n y;exact⟨q,h.pl _ _ m,u⟩⟩
def aG.mono{F F':Env}(h:F.le F'):∀(l:Q3)(vs:Q6),aG F l vs->aG F' l vs
 |[],_,b=>by simpa only[aG]using b
 |a::l,_,b=>by simp only[aG]at b⊢;obtain⟨x,xs,e,h1,c⟩:=b;exact⟨x,xs,e,VR.mono h a x h1,aG.mono h l xs c⟩
end
def MH{α β:Type}{f:α->Option β}:∀{l:List α}{r:List β},uS f l=some r->l.length=r.length/\∀(k:Nat) x,l[k]? =some x->∃y,r[k]? =some y/\f x=some y
 |[],r,h=>by simp[uS]at h;subst h;simp
 |x::xs,r,h=>by
  simp only[uS]at h;split at h
  ·cases h
  ·rename_i y d
   split at h
   ·cases h
   ·rename_i i b
    cases h;have c:=MH b;refine⟨by simp[c.1],λk z a=>?_⟩;cases k with
    |zero=>simp at a;subst a;exact⟨y,aA,d⟩
    |succ k=>simp at a;obtain⟨u,e,g⟩:=c.2 k z a;exact⟨u,by simpa using e,g⟩
def aj9{F:Env}:∀(n:Nat)(a:AV)(v:Value),a.toVal n=some v->VR F a v:=by
 intro n;induction n with
 |zero=>intro a v h;simp[AV.toVal]at h
 |succ n f=>
  intro a v h;have b:∀(l:Q3)(e:Q6),uS (AV.toVal n) l=some e->aG F l e:=λl e g=>by have:=MH g;exact aG.of this.1 λk a i=>by obtain⟨y,j,m⟩:=this.2 k a i;exact⟨y,j,f _ _ m⟩
  cases a<;>simp only[AV.toVal,bn,aY]at h<;>simp only[VR]<;>first|exact h.symm|(cases h;done)|skip
  case jh t a=>obtain⟨y,c,d⟩:=h;exact⟨_,d.symm,f _ _ c⟩
  case agg l=>obtain⟨y,c,d⟩:=h;exact⟨_,d.symm,b _ _ c⟩
  case dU l=>obtain⟨y,c,d⟩:=h;exact⟨_,d.symm,b _ _ c⟩
def akb{F:Env}:∀(n:Nat)(a:AV)(v x:Value),a.toVal n=some v->VR F a x->x=v:=by
 intro n;induction n with
 |zero=>intro a v x h;simp[AV.toVal]at h
 |succ n j=>
  intro a v x h e;have f:∀(l:Q3)(g i:Q6),uS (AV.toVal n) l=some g->aG F l i->i=g:=λl g i p m=>by
   have b:=MH p;have d:=KL.1 m;apply Kv;intro k;by_cases o:k<l.length
   ·obtain⟨y,q,r⟩:=b.2 k _ (bT o);obtain⟨z,c,s⟩:=m.at (bT o);rw[q,c,j _ _ _ r s]
   ·rw[wG ah,wG ah]
  cases a<;>simp only[AV.toVal,bn,aY]at h<;>simp only[VR]at e<;>first|exact e.trans h|(cases h;done)|skip
  case jh t a=>obtain⟨y,b,d⟩:=h;obtain⟨z,rfl,c⟩:=e;rw[<-d,j _ _ _ b c]
  case agg l=>obtain⟨y,b,d⟩:=h;obtain⟨z,rfl,c⟩:=e;rw[<-d,f _ _ _ b c]
  case dU l=>obtain⟨y,b,d⟩:=h;obtain⟨z,rfl,c⟩:=e;rw[<-d,f _ _ _ b c]
def Ej{F:Env}:∀(n:Nat)(v:Value)(a:AV),lW n v=some a->VR F a v:=by
 intro n;induction n with
 |zero=>intro v a h;simp[lW]at h
 |succ n f=>
  intro v a h;have c:∀(e:Q6)(l:Q3),uS (lW n) e=some l->aG F l e:=λe l j=>by
   have b:=MH j;refine aG.of b.1.symm λk a g=>?_;have d:k<e.length:=by have:=(fH.1 g).1;omega
   obtain⟨y,i,m⟩:=b.2 k _ (bT d);rw[g]at i;cases i;exact⟨_,bT d,f _ _ m⟩
  unfold lW at h;split at h;all_goals try (cases h;done)
  all_goals try (cases h;simp only[VR];done)
  ·simp only[bn]at h;obtain⟨y,b,rfl⟩:=h;simp only[VR];exact⟨_,rfl,f _ _ b⟩
  ·simp only[bn]at h;obtain⟨y,b,rfl⟩:=h;simp only[VR];exact⟨_,rfl,c _ _ b⟩
  ·simp only[bn]at h;obtain⟨y,b,rfl⟩:=h;simp only[VR];exact⟨_,rfl,c _ _ b⟩
def CJ{α:Type}{P:Program}{s:Sem α}{a:α}(h:qG P s=some a)(w:World):s.run P w=.ok a w:=by
 induction s with
 |pure x=>simp[qG]at h;subst h;rfl
 |program k b=>exact b P h
 |mark m k b=>exact b h
 |_=>simp[qG]at h
omit [aJ] in
def Tr.af8{α:Type}:∀p:List Bool,(Tr.nil:Tr α).uM p=none
 |[]=>rfl
 |b::p=>by
  show Tr.uM p (bif b then Tr.nil else Tr.nil)=none
  cases b<;>exact Tr.af8 p
omit [aJ] in
@[simp] theorem Tr.get_nil{α:Type}(m:Nat):(Tr.nil:Tr α).get m=none:=Tr.af8 _
omit [aJ] in
def Tr.Y7{α:Type}(x:Option α):∀(p q:List Bool)(t:Tr α),(t.JK x p).uM q=if q=p then x else t.uM q
 |[],[],t=>rfl
 |[],c::q,t=>by rw[aj aA];rfl
 |b::p,[],t=>by rw[aj aA];cases b<;>rfl
 |b::p,c::q,t=>by
  have h1:(t.JK x (b::p))=bif b then .nd t.val (t.Ed.JK x p) t.Et else .nd t.val t.Ed (t.Et.JK x p):=rfl
  have a:∀u:Tr α,u.uM (c::q)=(bif c then u.Ed else u.Et).uM q:=λ_=>rfl;rw[h1,a,a];cases b<;>cases c
  ·show(t.Et.JK x p).uM q=_
   rw[Tr.Y7 x p q];simp
  ·show t.Ed.uM q=_
   simp
  ·show t.Et.uM q=_
   simp
  ·show(t.Ed.JK x p).uM q=_
   rw[Tr.Y7 x p q];simp
def W9:List Bool->Nat
 |[]=>0
 |b::p=>2*W9 p+(if b then 1 else 2)
omit [aJ] in
def akl:∀(f n:Nat),n<2^f->W9 (Qo f n)=n
 |0,n,h=>by
  have:n=0:=by simpa using h
  subst this;rfl
 |f+1,n,h=>by
  have c:Qo (f+1) n=bif Nat.beq n 0 then[]else Nat.beq ((n-1)%2) 0::Qo f ((n-1)/2):=rfl
  rw[c];by_cases b:n=0
  ·subst b;rfl
  ·have d:Nat.beq n 0=false:=by cases n with|zero=>exact absurd rfl b|succ n=>rfl
   rw[d];show 2*W9 (Qo f ((n-1)/2))+_=n
   have e:2^(f+1)=2*2^f:=by rw[KF,Hq]
   rw[akl f _ ah];rcases adr (n-1)with a|a
   ·rw[a];show 2*((n-1)/2)+1=n;omega
   ·rw[a];show 2*((n-1)/2)+2=n;omega
omit [aJ] in
def akk(n:Nat):W9 (path n)=n:=akl _ _ Nat.lt_log2_self
omit [aJ] in
def av1{n m:Nat}:path n=path m↔n=m:=⟨λh=>by rw[<-akk n,h,akk],λh=>by rw[h]⟩
omit [aJ] in
def Tr.uN{α:Type}(t:Tr α)(n m:Nat)(x:Option α):(t.set n x).get m=if m=n then x else t.get m:=by
 unfold Tr.get Tr.set;rw[Tr.Y7];by_cases h:m=n
 ·subst h;simp
 ·rw[aj h,aj (λe=>h (av1.1 e))]
omit [aJ] in
def aC.get_put(J:aC)(id a:Nat)(o:bG):(J.put id o).get a=if a=id then some o else J.get a:=Tr.uN _ _ _ _
omit [aJ] in
def aC.yT(J:aC)(id a:Nat):(J.kill id).get a=if a=id then none else J.get a:=Tr.uN _ _ _ _
omit [aJ] in
def aC.pF(J:aC)(a:Nat)(o:bG):(J.new o).get a=if a=J.next then some o else J.get a:=Tr.uN _ _ _ _
def bG.own:bG->Bool
 |.cells _ _ rw _=>rw
 |_=>true
structure rV(P:Program)(F:Env)(q:Place)(c:Q3)(et:TypeId)(rw opn:Bool)(cs:QQ)(elem:TypeId)(fr:Nat×Nat):Prop where
 fits:q.ba+q.sz<=cs.size
 le:c.length<=q.sz
 shut:opn=false->c.length=q.sz
 cell:∀(k:Nat) a,c[k]? =some a->∃x,cs[q.ba+k]? =some x/\VR F a x
 free:rw=true->∀k,k<q.sz->¬(fr.1<=q.ba+k/\q.ba+k<fr.2)
 whole:et≠0->elem=et/\q.ba+q.sz=cs.size/\(opn=false->q.ba=0)
 room:opn=true->et≠0/\0<q.es/\sizeT P et=some q.es
def Aj(b:Wf)(a:GV):Prop:=match b with
 |some k=>∃n,a=.i k n
 |none=>∃s,a=.s s
def NK(sz:QR)(b:GV):Prop:=match sz with
 |none=>b.scalar=true
 |some n=>∃a,b=.g a/\a.length=n/\a.all GV.scalar=true
def rY(ro:Qf)(d:Wf)(sz:QR):Q1->List MapEntry->Prop
 |[],c=>c=[]
 |x::xs,c=>∃a b m rest,x=.g [a,b]/\c=m::rest/\Aj d a/\NK sz b/\GR ro a m.key/\GR ro b m.val/\rY ro d sz xs rest
def rY.mono{ro ro':Qf}(h:∀b o,ro b=some o->ro' b=some o){d:Wf}{sz:QR}:∀{xs:Q1}{c:List MapEntry},rY ro d sz xs c->rY ro' d sz xs c
 |[],c,r=>r
 |x::xs,c,r=>by obtain⟨a,b,m,rest,e,f,h1,g,i,j,h5⟩:=r;exact⟨a,b,m,rest,e,f,h1,g,GR.mono h _ _ i,GR.mono h _ _ j,rY.mono h h5⟩
def OR(P:Program)(F:Env)(q:Place)(w:World):bG->Prop
 |.cells c et rw opn=>∃cs elem h,w.heap[q.bl]? =some (.cells cs elem h)/\rV P F q c et rw opn cs elem h
 |.iter s pos=>w.heap[q.bl]? =some (.stringIter ⟨⟨s⟩⟩ pos)/\q.ba=0
 |.map es=>∃d a,w.heap[q.bl]? =some (.map d a)/\d.size=es.length/\∀(k:Nat) e,es[k]? =some e->∃m,d[k]? =some m/\VR F e.1 m.key/\VR F e.2 m.val
 |.vec n et f=>∃xs cs elem h i,aJ.val n=some (.l xs)/\w.heap[q.bl]? =some (.cells cs elem h)/\aS F.ro xs i/\(∀y∈i,y.cells.size=q.es)/\FH cs q.ba (dN i)/\xs.length*q.es<=q.sz/\rV P F q [] et true true cs elem h/\(∀x∈xs,x.cells.all GV.scalar=true)/\(f=true->q.es<=q.sz)
 |.smap n j sz=>∃xs d a,aJ.val n=some (.l xs)/\w.heap[q.bl]? =some (.map d a)/\rY F.ro j sz xs d.toList
 |.pmap es=>(es.map (·.1)).Nodup/\∃d a g,w.heap[q.bl]? =some (.map d a)/\d.toList.Perm g/\g.length=es.length/\∀(k:Nat) e,es[k]? =some e->∃m,g[k]? =some m/\m.key=.string ⟨⟨e.1⟩⟩/\VR F e.2 m.val
 |.iterM none=>q.ba=0/\∃b last,w.heap[q.bl]? =some (.mapIter none b #[] last)
 |.iterM (some m)=>q.ba=0/\∃b last q',F m=some q'/\w.heap[q.bl]? =some (.mapIter (some q'.bl) b #[] last)
def rV.mono{P:Program}{F F':Env}(h:F.le F'){q:Place}{c:Q3}{et:TypeId}{rw opn:Bool}{cs:QQ}{elem:TypeId}{b:Nat×Nat}
 (r:rV P F q c et rw opn cs elem b):rV P F' q c et rw opn cs elem b:=
 {r with cell:=λk a d=>by obtain⟨x,e,f⟩:=r.cell k a d;exact⟨x,e,VR.mono h _ _ f⟩}
def OR.mono{P:Program}{F F':Env}(h:F.le F'){q:Place}{w:World}{o:bG}(r:OR P F q w o):OR P F' q w o:=by
 cases o with
 |cells c B rw D=>obtain⟨p,b,t,d,g⟩:=r;exact⟨p,b,t,d,g.mono h⟩
 |iter s pos=>exact r
 |map es=>obtain⟨l,a,d,g,i⟩:=r;refine⟨l,a,d,g,λk e u=>?_⟩;obtain⟨m,v,x,y⟩:=i k e u;exact⟨m,v,VR.mono h _ _ x,VR.mono h _ _ y⟩
 |iterM m=>
  cases m with
  |none=>exact r
  |some m=>obtain⟨E,j,last,G,d,g⟩:=r;exact⟨E,j,last,G,h.pl _ _ d,g⟩
 |smap n S T=>obtain⟨z,l,a,d,g,i⟩:=r;exact⟨z,l,a,d,g,i.mono h.ro⟩
 |pmap es=>obtain⟨H,l,a,A,d,I,g,i⟩:=r;refine⟨H,l,a,A,d,I,g,λk e u=>?_⟩;obtain⟨m,v,x,y⟩:=i k e u;exact⟨m,v,x,VR.mono h _ _ y⟩
 |vec n B f=>obtain⟨z,p,b,t,J,d,g,i,L,M,N,O,R⟩:=r;exact⟨z,p,b,t,J,d,g,aS.mono h.ro _ _ i,L,M,N,O.mono h,R⟩
def OR.heap{P:Program}{F:Env}{q:Place}{w w':World}{o:bG}(h:w'.heap[q.bl]? =w.heap[q.bl]?)(r:OR P F q w o):OR P F q w' o:=by
 cases o with
 |iterM m=>cases m<;>simp only[OR]at r⊢<;>rw[h]<;>exact r
 |_=>simp only[OR]at r⊢;rw[h];exact r
def Ry(a:AV)(x:Value):Prop:=a.toVal 4=some x\/∃k lo hi m,a=.z k lo hi/\x=.int k m/\lo<=m/\m<=hi
def XL(c:Q3)(cs:QQ):Prop:=(∀(k:Nat) a,c[k]? =some a->∃x,cs[k]? =some x/\Ry a x)/\(c≠[]->cs.size=c.length)/\(c=[]->∃t q,cs[0]? =some (.iface t q))
def Ry.vr{F:Env}{a:AV}{x:Value}(h:Ry a x):VR F a x:=by
 rcases h with h|⟨k,lo,hi,m,rfl,rfl,b,c⟩
 ·exact aj9 4 a x h
 ·simp only[VR];exact⟨m,b,c,rfl⟩
def E8(F:Env)(g:Nat)(c:Q3):Prop:=∃b a d,F.ro g=some (.cells b a d)/\c.length<=b.size/\XL c b
def E8.mono{F F':Env}{g:Nat}{c:Q3}(h:E8 F g c)(b:F.le F'):E8 F' g c:=by obtain⟨d,a,e,f,i⟩:=h;exact⟨d,a,e,b.ro _ _ f,i⟩
def Live(P:Program)(F:Env)(w:World)(id:Nat)(o:bG):Prop:=(∃q,F id=some q/\OR P F q w o)\/(F.gh id=true/\∃n a f,o=.vec n a f/\aJ.val n=some (.l []))
def Live.mono{P:Program}{F F':Env}(h:F.le F'){w:World}{id:Nat}{o:bG}(r:Live P F w id o):Live P F' w id o:=by
 rcases r with⟨q,a,b⟩|⟨c,d⟩
 ·exact .inl ⟨q,h.pl _ _ a,b.mono h⟩
 ·exact .inr ⟨h.gh _ c,d⟩
def Live.heap{P:Program}{F:Env}{w w':World}{id:Nat}{o:bG}(r:Live P F w id o)(h:∀q,F id=some q->OR P F q w o->w'.heap[q.bl]? =w.heap[q.bl]?):Live P F w' id o:=by
 rcases r with⟨q,a,b⟩|c
 ·exact .inl ⟨q,a,OR.heap (h q a b) b⟩
 ·exact .inr c
structure SR(P:Program)(F:Env)(J:aC)(w:World):Prop where
 mJ:∀g,g<=P.globals.size->∃sz es,F g=some ⟨g,0,sz,es⟩
 dom:∀id q,F id=some q->id<J.next
 live:∀id o,J.get id=some o->Live P F w id o
 jU:∀id,F.gh id=true->F id=none/\id<J.next
 sep:∀id o id' o' q q',J.get id=some o->o.own=true->J.get id'=some o'->id≠id'->F id=some q->F id'=some q'->q.bl≠q'.bl
 jc:∀b o,F.ro b=some o->w.heap[b]? =some o
 lq:∀id o q,J.get id=some o->o.own=true->F id=some q->F.ro q.bl=none
 tabs:∀p∈aJ.tabs,E8 F p.1 p.2
def bG.atc:bG->Bool
 |.vec _ _ _=>true
 |_=>false
def SR.obj{P:Program}{F:Env}{J:aC}{w:World}(h:SR P F J w):∀id o,J.get id=some o->o.atc=false->∃q,F id=some q/\OR P F q w o:=by
 intro id o a b;rcases h.live id o a with c|⟨_,n,d,f,rfl,_⟩
 ·exact c
 ·cases b
def SR.at{P:Program}{F:Env}{J:aC}{w:World}(h:SR P F J w){id:Nat}{o:bG}{q:Place}(c:J.get id=some o)(b:F id=some q):OR P F q w o:=by
 rcases h.live id o c with⟨f,a,d⟩|⟨e,_⟩
 ·rw[b]at a;cases a;exact d
 ·rw[(h.jU id e).1]at b;cases b
structure St(P:Program)(F:Env)(J:aC)(w:World)(F':Env)(J':aC)(w':World):Prop where
 ext:F.le F'
 rel:SR P F' J' w'
 size:w.heap.size<=w'.heap.size
 keep:∀bl,bl<w.heap.size->(∀id o q,J.get id=some o->o.own=true->J.lock<=id->F id=some q->q.bl≠bl)->w'.heap[bl]? =w.heap[bl]?
 own:∀id o q,J'.get id=some o->o.own=true->J.lock<=id->F' id=some q->w.heap.size<=q.bl\/∃dP o0 q0,J.get dP=some o0/\o0.own=true/\J.lock<=dP/\F dP=some q0/\q0.bl=q.bl
 os:w'.os=w.os
 tape:w'.tape=w.tape
 output:w'.output=w.output
 lock:J'.lock=J.lock
 next:J.next<=J'.next
 new:∀id,F'.has id->F.has id\/(J.next<=id/\id<J'.next)
 qH:∀b,F'.ro b≠none->F.ro b≠none\/w.heap.size<=b\/∃dP o0 q0,J.get dP=some o0/\o0.own=true/\J.lock<=dP/\F dP=some q0/\q0.bl=b
def St.refl{P:Program}{F:Env}{J:aC}{w:World}(h:SR P F J w):St P F J w F J w:=
 ⟨Env.le.refl _,h,cO _,λ_ _ _=>rfl,λid o q a b c d=>.inr ⟨id,o,q,a,b,c,d,rfl⟩,rfl,rfl,rfl,rfl,cO _,λ_ h=>.inl h,λ_ h=>.inl h⟩
def St.trans{P:Program}{F F1 x:Env}{J y z:aC}{w w1 A:World}(h:St P F J w F1 y w1)(k:St P F1 y w1 x z A):St P F J w x z A:=by
 refine⟨h.ext.trans k.ext,k.rel,kR h.size k.size,?_,?_,k.os.trans h.os,k.tape.trans h.tape,k.output.trans h.output,k.lock.trans h.lock,kR h.next k.next,?_,?_⟩;rotate_right
 ·intro b E;rcases k.qH b E with h1|h1|⟨i,o0,j,p,r,s,d1,t⟩
  ·exact h.qH b h1
  ·exact .inr (.inl (kR h.size h1))
  ·rcases h.own i o0 j p r (h.lock▸s) d1 with g|⟨u,G,H,I,L,M,d2,N⟩
   ·right;left;omega
   ·exact .inr (.inr ⟨u,G,H,I,L,M,d2,N.trans t⟩)
 rotate_right
 ·intro id O;rcases k.new id O with h1|⟨h1,g⟩
  ·rcases h.new id h1 with f|⟨f,l⟩
   ·exact .inl f
   ·exact .inr ⟨f,xR l k.next⟩
  ·exact .inr ⟨Nat.le_trans h.next h1,g⟩
 ·intro B m n;rw[k.keep B (xR m h.size) ?_,h.keep B m n];intro id o q h1 g f l;rcases h.own id o q h1 g (h.lock▸f) l with D|⟨i,o0,j,a,b,c,d,e⟩
  ·omega
  ·rw[<-e];exact n i o0 j a b c d
 ·intro id o q h1 g f l;rcases k.own id o q h1 g (by rw[h.lock];exact f) l with D|⟨i,o0,j,a,b,c,d,e⟩
  ·exact .inl (kR h.size D)
  ·rcases h.own i o0 j a b (h.lock▸c) d with S|⟨v,o1,R,p,r,s,d1,t⟩
   ·left;omega
   ·exact .inr ⟨v,o1,R,p,r,s,d1,t.trans e⟩
def SR.hasLt{P:Program}{F:Env}{J:aC}{w:World}(h:SR P F J w){id:Nat}(a:F.has id):id<J.next:=a.elim (λ⟨q,b⟩=>h.dom id q b) λc=>(h.jU id c).2
def SR.Px{P:Program}{F:Env}{J:aC}{w:World}(h:SR P F J w){id:Nat}{o:bG}(a:J.get id=some o):F.has id:=(h.live id o a).elim (λ⟨q,b,_⟩=>.inl ⟨q,b⟩) λ⟨c,_⟩=>.inr c
def St.au9{P:Program}{F F':Env}{J J':aC}{w w':World}(h:St P F J w F' J' w'){id:Nat}{q:Place}(a:F' id=some q):F id=some q\/(J.next<=id/\id<J'.next):=by
 rcases h.new id (.inl ⟨q,a⟩)with(⟨p,b⟩|c)|d
 ·have:=h.ext.pl _ _ b;rw[a]at this;cases this;exact .inl b
 ·have:=(h.rel.jU id (h.ext.gh _ c)).1;rw[a]at this;cases this
 ·exact .inr d
def SR.drew{P:Program}{F:Env}{J:aC}{w:World}(h:SR P F J w):SR P F J {w with drawn:=w.drawn+1}:=
 ⟨h.mJ,h.dom,λid o a=>(h.live id o a).heap (w:=w) (λ_ _ _=>rfl),h.jU,h.sep,h.jc,h.lq,h.tabs⟩
def St.drew{P:Program}{F:Env}{J:aC}{w:World}(h:SR P F J w):St P F J w F J {w with drawn:=w.drawn+1}:=
 ⟨Env.le.refl _,h.drew,cO _,λ_ _ _=>rfl,λid o q a b c d=>.inr ⟨id,o,q,a,b,c,d,rfl⟩,rfl,rfl,rfl,rfl,cO _,λ_ h=>.inl h,λ_ h=>.inl h⟩
def qL(bl off n:Nat):(⟨bl,off,none⟩:Addr).add n=⟨bl,off+n,none⟩:=by
 unfold Addr.add;split
 ·next h=>simp[h]
 ·rfl
def OV{w:World}{bl off:Nat}{cs:QQ}{elem:TypeId}{a:Nat×Nat}(h:w.heap[bl]? =some (.cells cs elem a)):
 w.cell? ⟨bl,off,none⟩=cs[off]?:=by
 simp[World.cell?,h]
def afV{w:World}{bl off:Nat}{cs:QQ}{elem:TypeId}{a:Nat×Nat}(h:w.heap[bl]? =some (.cells cs elem a)):
 w.frozen? ⟨bl,off,none⟩=(decide (a.1<=off)&&decide (off<a.2)):=by
 simp[World.frozen?,h]
def run_loadCellsFrom{P:Program}{w:World}{bl off:Nat}{cs:QQ}{elem:TypeId}{c:Nat×Nat}(h:w.heap[bl]? =some (.cells cs elem c)):
 ∀(n i:Nat)(a:QQ),off+i+n<=cs.size->
  (loadCellsFrom ⟨bl,off,none⟩ i n a).run P w=.ok (a++(cs.toList.drop (off+i)).take n) w:=by
 intro n;induction n with
 |zero=>intro i a _;simp[loadCellsFrom]
 |succ n d=>
  intro i a e;have b:off+i<cs.size:=ah;have f:w.cell? ⟨bl,off+i,none⟩=some cs[off+i]:=by rw[OV h];simp[b]
  simp only[loadCellsFrom,aU,qL];have g:(load ⟨bl,off+i,none⟩).run P w=.ok cs[off+i] w:=by simp[load,Sem.run,f]
  rw[g];simp only[aT];rw[d (i+1) _ ah];congr 1;have:cs.toList.drop (off+i)=cs[off+i]::cs.toList.drop (off+(i+1)):=by rw[gW (by simpa using b)];simp[jY]
  rw[this];simp
def run_loadCells{P:Program}{w:World}{bl off n:Nat}{cs:QQ}{elem:TypeId}{b:Nat×Nat}(h:w.heap[bl]? =some (.cells cs elem b))(a:off+n<=cs.size):
 (loadCells ⟨bl,off,none⟩ n).run P w=.ok ⟨(cs.toList.drop off).take n⟩ w:=by
 unfold loadCells;rw[run_loadCellsFrom h n 0 #[] (by simpa using a)];simp
def ai9{P:Program}{w:World}{bl off:Nat}{cs:QQ}{elem:TypeId}{a:Nat×Nat}{x:Value}(h:w.heap[bl]? =some (.cells cs elem a))(b:cs[off]? =some x):
 (load ⟨bl,off,none⟩).run P w=.ok x w:=by
 have c:w.cell? ⟨bl,off,none⟩=some x:=by rw[OV h,b]
 simp[load,Sem.run,c]
def setFrom(cs:QQ)(off:Nat):Q6->Array Value
 |[]=>cs
 |v::vs=>setFrom (cs.setIfInBounds off v) (off+1) vs
def Nj:∀(vs:Q6)(cs:QQ)(off:Nat),(setFrom cs off vs).size=cs.size
 |[],_,_=>rfl
 |v::vs,cs,off=>by rw[setFrom,Nj vs];simp
def V9:∀(vs:Q6)(cs:QQ)(off k:Nat),off+vs.length<=cs.size->
 (setFrom cs off vs)[k]? =if off<=k/\k<off+vs.length then vs[k-off]? else cs[k]?
 |[],cs,off,k,h=>by simp[setFrom];omega
 |v::vs,cs,off,k,h=>by
  simp only[iF]at h;rw[setFrom,V9 vs _ _ _ (by simp;omega)];by_cases h1:off+1<=k/\k<off+1+vs.length
  ·rw[au h1,au ⟨ah,by simp;omega⟩];have:k-off=(k-(off+1))+1:=ah;rw[this];simp
  ·rw[aj h1];by_cases a:k=off
   ·subst a;rw[au ⟨Nat.le_refl _,aA⟩];have b:k<cs.size:=ah;simp[b]
   ·rw[aj (by simp only[iF];omega)];rw[Df,aj (λe=>a e.symm)]
def nK(w:World)(bl:Nat)(o:Obj):World:={w with heap:=w.heap.setIfInBounds bl o}
def CQ{w:World}{bl:Nat}{o o':Obj}(h:w.heap[bl]? =some o):(nK w bl o').heap[bl]? =some o':=by have:bl<w.heap.size:=(qI.1 h).1;simp[nK,this]
def Ew{w:World}{bl k:Nat}{o':Obj}(h:k≠bl):(nK w bl o').heap[k]? =w.heap[k]?:=by simp only[nK];rw[Df,aj (λe=>h e.symm)]
def Ey{w:World}{bl:Nat}{o':Obj}:(nK w bl o').heap.size=w.heap.size:=by simp[nK]
def azU{w:World}{bl:Nat}{o o':Obj}:nK (nK w bl o) bl o'=nK w bl o':=by simp only[nK];congr 1;apply QZ;intro i;simp only[Df,Array.size_setIfInBounds];split<;>rfl
def setCell_eq{w:World}{bl off:Nat}{cs:QQ}{elem:TypeId}{a:Nat×Nat}(h:w.heap[bl]? =some (.cells cs elem a))(v:Value):
 w.setCell ⟨bl,off,none⟩ v=nK w bl (.cells (cs.setIfInBounds off v) elem a):=by
 unfold World.setCell nK;congr 1;apply QZ;intro i;rw[J7,Df];by_cases e:bl=i
 ·subst e;have:bl<w.heap.size:=(qI.1 h).1;rw[au rfl,au rfl,au this,h];rfl
 ·rw[aj e,aj e]
def azT{w:World}{bl:Nat}{o:Obj}(h:w.heap[bl]? =some o):nK w bl o=w:=by
 unfold nK;have:w.heap.setIfInBounds bl o=w.heap:=by
  apply QZ;intro i;rw[Df];by_cases e:bl=i
  ·subst e;have:bl<w.heap.size:=(qI.1 h).1;rw[au rfl,au this,h]
  ·rw[aj e]
 rw[this]
def qE:Value->Bool
 |.agg _|.tuple _=>false
 |_=>true
def abN{P:Program}:∀(vs:Q6)(w:World)(bl off i:Nat)(cs:QQ)(elem:TypeId)(a:Nat×Nat),
 w.heap[bl]? =some (.cells cs elem a)->off+i+vs.length<=cs.size->(∀v∈vs,qE v=true)->
 (∀k,off+i<=k->k<off+i+vs.length->¬(a.1<=k/\k<a.2))->
 (storeCells ⟨bl,off,none⟩ vs i).run P w=.ok () (nK w bl (.cells (setFrom cs (off+i) vs) elem a))
 |[],w,bl,off,i,cs,elem,a,h,_,_,_=>by simp[storeCells,setFrom,azT h]
 |v::vs,w,bl,off,i,cs,elem,a,h,d,b,c=>by
  simp only[iF]at d c;have e:off+i<cs.size:=ah;have f:w.cell? ⟨bl,off+i,none⟩=some cs[off+i]:=by rw[OV h];simp[e]
  have g:w.frozen? ⟨bl,off+i,none⟩=false:=by rw[afV h];have:=c (off+i) ah ah;simpa using this
  have j:=b v aA;have l:(store ⟨bl,off+i,none⟩ v).run P w=.ok () (nK w bl (.cells (cs.setIfInBounds (off+i) v) elem a)):=by rw[<-setCell_eq h];cases v<;>simp[qE]at j<;>simp[store,Sem.run,f,g]
  simp only[storeCells,aU,qL,l,aT];rw[abN vs _ bl off (i+1) (cs.setIfInBounds (off+i) v) elem a (CQ h) (by simp;omega) (λx m=>b x (by simp[m])) (λk n o=>c k ah ah)];rw[azU];rfl
def Env.put(F:Env)(id:Nat)(q:Place):Env:=⟨λk=>if k=id then some q else F k,F.ro,F.gh⟩
def Env.Gv{P:Program}{F:Env}{J:aC}{w:World}(h:SR P F J w)(q:Place):F.le (F.put J.next q):=by refine⟨λid p a=>?_,λ_ _ h=>h,λ_ h=>h⟩;have:=h.dom id p a;simp only[Env.put];rw[aj ah];exact a
def vN{w:World}{k:Nat}{o:Obj}(h:w.heap[k]? =some o):k<w.heap.size:=(qI.1 h).1
def OR.lt{P:Program}{F:Env}{q:Place}{w:World}{o:bG}(h:OR P F q w o):q.bl<w.heap.size:=by
 cases o with
 |cells c e rw g=>obtain⟨i,d,j,a,_⟩:=h;exact vN a
 |iter s pos=>exact vN h.1
 |map es=>obtain⟨k,b,a,_⟩:=h;exact vN a
 |iterM m=>cases m with
  |none=>obtain⟨_,_,_,a⟩:=h;exact vN a
  |some m=>obtain⟨_,_,_,_,_,a⟩:=h;exact vN a
 |vec n e f=>obtain⟨_,_,_,_,_,_,a,_⟩:=h;exact vN a
 |smap n l p=>obtain⟨_,_,_,_,a,_⟩:=h;exact vN a
 |pmap es=>obtain⟨_,_,_,_,a,_⟩:=h;exact vN a
def Env.abx{P:Program}{F:Env}{J:aC}{w:World}(h:SR P F J w)(q:Place){n:Nat}(c:J.next<n):∀id,(F.put J.next q).gh id=true->(F.put J.next q) id=none/\id<n:=by intro id a;obtain⟨b,d⟩:=h.jU id a;refine⟨?_,ah⟩;simp only[Env.put];rw[aj ah];exact b
def St.alloc{P:Program}{F:Env}{J:aC}{w:World}(h:SR P F J w)(o:bG)(u:Obj)(q:Place)(O:q.bl=w.heap.size)
 (G:OR P (F.put J.next q) q {w with heap:=w.heap.push u} o):St P F J w (F.put J.next q) (J.new o) {w with heap:=w.heap.push u}:=by
 have c:=Env.Gv h q;have i:∀k,k<w.heap.size->(w.heap.push u)[k]? =w.heap[k]?:=λk R=>by rw[He,aj ah]
 have D:∀b o,F.ro b=some o->b<w.heap.size:=λb o t=>vN (h.jc b o t);refine⟨c,⟨?_,?_,?_,Env.abx h q (Dp _),?_,λb o t=>?_,λid o1 p v H r=>?_,λp d=>(h.tabs p d).mono c⟩,aA,λbl x _=>i bl x,?_,rfl,rfl,rfl,rfl,Nat.le_succ _,?_,λ_ h=>.inl h⟩;rotate_right
 ·rintro id (⟨p,d⟩|y)
  ·simp only[Env.put]at d;split at d
   ·next e=>subst e;exact .inr ⟨Nat.le_refl _,Dp _⟩
   ·exact .inl (.inl ⟨p,d⟩)
  ·exact .inl (.inr y)
 ·intro g y;obtain⟨I,es,a⟩:=h.mJ g y;exact⟨I,es,c.pl _ _ a⟩
 ·intro id p d;simp only[Env.put]at d;show id<J.next+1
  split at d
  ·omega
  ·have:=h.dom id p d;omega
 ·intro id L f;rw[aC.pF]at f;split at f
  ·next e=>cases f;subst e;exact .inl ⟨q,by simp[Env.put],G⟩
  ·exact((h.live id L f).heap (w:=w) (λp _ M=>i _ M.lt)).mono c
 ·intro id o1 z E p N a A n j l m;rw[aC.pF]at a n;simp only[Env.put]at l m;split at a<;>split at n
  ·omega
  ·next e s=>
   rw[au e]at l;rw[aj s]at m;cases l;have:=(h.at n m).lt;omega
  ·next e s=>
   rw[aj e]at l;rw[au s]at m;cases m;have:=(h.at a l).lt;omega
  ·next e s=>
   rw[aj e]at l;rw[aj s]at m;exact h.sep id o1 z E p N a A n j l m
 ·exact(i b (D b o t)).trans (h.jc b o t)
 ·rw[aC.pF]at v;simp only[Env.put]at r⊢;split at v
  ·next e=>
   rw[au e]at r;cases r;cases B:F.ro q.bl with
   |none=>rfl
   |some E=>have:=D _ _ B;omega
  ·next e=>rw[aj e]at r;exact h.lq id o1 p v H r
 ·intro id o1 p a A n j;rw[aC.pF]at a;simp only[Env.put]at j;split at a
  ·next e=>rw[au e]at j;cases j;left;omega
  ·next e=>rw[aj e]at j;exact .inr ⟨id,o1,p,a,A,n,j,rfl⟩
def St.write{P:Program}{F:Env}{J:aC}{w w':World}(h:SR P F J w){id:Nat}{o o':bG}{q:Place}(l:J.get id=some o)(m:o.own=true)(B:J.lock<=id)
 (n:F id=some q) (G:w'.heap.size=w.heap.size) (v:∀k,k≠q.bl->w'.heap[k]? =w.heap[k]?) (h1:w'.os=w.os) (H:w'.tape=w.tape) (I:w'.output=w.output)
 (L:OR P F q w' o'):St P F J w F (J.put id o') w':=by
 have r:=h.lq id o q l m n;refine⟨Env.le.refl _,⟨h.mJ,h.dom,?_,h.jU,?_,λb j u=>?_,λi j p x M y=>?_,h.tabs⟩,ah,?_,?_,h1,H,I,rfl,cO _,λ_ h=>.inl h,λ_ h=>.inl h⟩
 ·intro s j t;rw[aC.get_put]at t;split at t
  ·next e=>cases t;subst e;exact .inl ⟨q,n,L⟩
  ·next e=>exact(h.live s j t).heap (w:=w) λp N _=>v _ (h.sep id o s j q p l m t (λO=>e O.symm) n N).symm
 ·intro g o1 i j p z a b c d e f;rw[aC.get_put]at a c;split at a<;>split at c
  ·omega
  ·next D E=>subst D;exact h.sep g o i j p z l m c d e f
  ·next D E=>subst E;exact h.sep g o1 i o p z a b l d e f
  ·exact h.sep g o1 i j p z a b c d e f
 ·rw[v b (λe=>by rw[e]at u;rw[r]at u;cases u)];exact h.jc b j u
 ·rw[aC.get_put]at x;split at x
  ·next e=>subst e;rw[n]at y;cases y;exact r
  ·exact h.lq i j p x M y
 ·intro bl R A;exact v bl (A id o q l m B n).symm
 ·intro g o1 p a b c d;rw[aC.get_put]at a;split at a
  ·next e=>subst e;exact .inr ⟨g,o,p,l,m,B,d,rfl⟩
  ·exact .inr ⟨g,o1,p,a,b,c,d,rfl⟩
def St.again{P:Program}{F:Env}{J:aC}{w w':World}(h:SR P F J w){id:Nat}{o o':bG}{q q':Place}(j:J.get id=some o)(x:o.own=true)(M:J.lock<=id)
 (t:F id=some q) (m:q'.bl=q.bl) (O:w'.heap.size=w.heap.size) (E:∀k,k≠q.bl->w'.heap[k]? =w.heap[k]?) (h1:w'.os=w.os) (R:w'.tape=w.tape) (S:w'.output=w.output)
 (T:OR P (F.put J.next q') q' w' o'):St P F J w (F.put J.next q') ((J.kill id).new o') w':=by
 have n:=Env.Gv h q';have U:id<J.next:=h.dom id q t;have get:∀k,((J.kill id).new o').get k=if k=J.next then some o' else if k=id then none else J.get k:=λk=>by rw[aC.pF,aC.yT];rfl
 have y:=h.lq id o q j x t;refine⟨n,⟨?_,?_,?_,Env.abx h q' (Dp _),?_,λb l G=>?_,λr l p z V A=>?_,λp i=>(h.tabs p i).mono n⟩,ah,?_,?_,h1,R,S,rfl,Nat.le_succ _,?_,λ_ h=>.inl h⟩;rotate_right
 ·rintro id (⟨p,i⟩|j)
  ·simp only[Env.put]at i;split at i
   ·next e=>subst e;exact .inr ⟨Nat.le_refl _,Dp _⟩
   ·exact .inl (.inl ⟨p,i⟩)
  ·exact .inl (.inr j)
 ·intro g j;obtain⟨W,es,h1⟩:=h.mJ g j;exact⟨W,es,n.pl _ _ h1⟩
 ·intro k p i;simp only[Env.put]at i;show k<J.next+1
  split at i
  ·omega
  ·have:=h.dom k p i;omega
 ·intro k l u;rw[get]at u;split at u
  ·next e=>cases u;subst e;exact .inl ⟨q',by simp[Env.put],T⟩
  ·split at u
   ·cases u
   ·next e v=>exact((h.live k l u).heap (w:=w) λp i _=>E _ (h.sep id o k l q p j x u (λH=>v H.symm) t i).symm).mono n
 ·intro s o1 r l p N a b c d e f;rw[get]at a c;simp only[Env.put]at e f;split at a<;>split at c
  ·omega
  ·next B v=>
   split at c
   ·cases c
   ·next I=>
    rw[au B]at e;rw[aj v]at f;cases e;rw[m];exact h.sep id o r l q N j x c (λH=>I H.symm) t f
  ·next B v=>
   split at a
   ·cases a
   ·next I=>
    rw[aj B]at e;rw[au v]at f;cases f;rw[m];exact h.sep s o1 id o p q a b j I e t
  ·next B v=>
   split at a
   ·cases a
   ·split at c
    ·cases c
    ·rw[aj B]at e;rw[aj v]at f;exact h.sep s o1 r l p N a b c d e f
 ·rw[E b (λe=>by rw[e]at G;have D:F.ro q.bl=some l:=G;rw[y]at D;cases D)];exact h.jc b l G
 ·rw[get]at z;simp only[Env.put]at A⊢;split at z
  ·next e=>rw[au e]at A;cases A;rw[m];exact y
  ·next e=>
   rw[aj e]at A;split at z
   ·cases z
   ·exact h.lq r l p z V A
 ·intro bl X L;exact E bl (L id o q j x M t).symm
 ·intro s o1 p a b c d;rw[get]at a;simp only[Env.put]at d;split at a
  ·next e=>rw[au e]at d;cases d;exact .inr ⟨id,o,q,j,x,M,t,m.symm⟩
  ·next e=>
   rw[aj e]at d;split at a
   ·cases a
   ·exact .inr ⟨s,o1,p,a,b,c,d,rfl⟩
def SR.sub{P:Program}{F:Env}{J τ:aC}{w:World}(h:SR P F J w)(i:∀id o,τ.get id=some o->J.get id=some o)(k:J.next<=τ.next):SR P F τ w:=
 ⟨h.mJ,λid q l=>xR (h.dom id q l) k,λid o m=>h.live id o (i id o m),λid g=>⟨(h.jU id g).1,xR (h.jU id g).2 k⟩,
  λid o j n q p a b c d e f=>h.sep id o j n q p (i _ _ a) b (i _ _ c) d e f,h.jc,λid o q a b c=>h.lq id o q (i _ _ a) b c,h.tabs⟩
def St.sub{P:Program}{F F':Env}{J J' τ:aC}{w w':World}(h:St P F J w F' J' w')(f:∀id o,τ.get id=some o->J'.get id=some o)(e:J'.next<=τ.next)(g:τ.lock=J'.lock):St P F J w F' τ w':=
 {h with rel:=h.rel.sub f e,own:=λid o q a b c d=>h.own id o q (f _ _ a) b c d,lock:=g.trans h.lock,next:=kR h.next e,new:=λid i=>(h.new id i).imp (λx=>x) λ⟨a,b⟩=>⟨a,xR b e⟩}
