/- Ground values, and the nodes by which a symbolic run names them. -/
import Derived.Calls
import Derived.Below
import Derived.Orders
import Derived.LoopN
import Derived.KernelRfl
import Derived.Laws.Strings
import Derived.WalkKit
set_option linter.unusedSimpArgs false
set_option linter.unusedSectionVars false
set_option linter.unusedVariables false
namespace Go.aN
abbrev YY:=List (Nat×FuncId)
abbrev WN:=Option Bool
abbrev Wz:=Option Addr
abbrev Ww:=List (Nat×Nat)
abbrev Wt:=Option Value
abbrev Wm:=Array TypeId
abbrev Wd:=List (Nat×Bool)
abbrev Wc:=Option IntKind
abbrev W4:=List (Option FuncId)
abbrev W3:=Array Oper
abbrev QR:=Option Nat
abbrev W5:=List (Nat×QR)
abbrev QQ:=Array Value
abbrev Qf:=Nat->Option Obj
abbrev Q6:=List Value
abbrev Q2:=List Nat
abbrev Ys:=List (Q2×Nat)
abbrev Q0:=List UInt8
abbrev Wg:=List Q0
noncomputable section
abbrev ah:=@if_neg
abbrev aj:=@if_pos
abbrev aK:=@Bool.and_eq_true
abbrev aQ:=@Result.andThen_ok
abbrev aS:=@Sem.run_bind
abbrev aV:=@List.nil_append
abbrev aW:=@Option.some.injEq
abbrev aZ:=@Option.map_eq_some_iff
abbrev bC:=@List.cons_append
abbrev bD:=@Nat.eq_of_beq_eq_true
abbrev bF:=@Sem.run_pure
abbrev bG:=@List.mem_cons
abbrev bK:=@List.getElem?_eq_getElem
abbrev bV:=@Nat.le_refl
abbrev dD:=@List.drop_zero
abbrev eU:=@List.getElem?_eq_some_iff
abbrev eX:=@List.length_drop
abbrev fE:=@List.length_map
abbrev fU:=@List.length_append
abbrev fZ:=@List.drop_eq_nil_of_le
abbrev gI:=@Option.map_some
abbrev gK:=@List.getElem_mem
abbrev gQ:=@List.length_cons
abbrev gY:=@List.drop_eq_getElem_cons
abbrev iD:=@List.map_cons
abbrev iO:=@Bool.false_eq_true
abbrev iP:=@List.getElem?_map
abbrev iV:=@List.pairwise_cons
abbrev jd:=@Nat.blt_eq
abbrev jl:=@List.map_nil
abbrev jw:=@List.eq_nil_of_length_eq_zero
abbrev jC:=@List.flatMap_cons
abbrev jD:=@Nat.le_trans
abbrev jL:=@Nat.add_assoc
abbrev jS:=@List.getElem?_cons_zero
abbrev jZ:=@List.take_of_length_le
abbrev kF:=@List.length_take
abbrev kG:=@List.mem_append
abbrev kH:=@Nat.zero_add
abbrev kS:=@List.getElem?_take
abbrev kT:=@List.length_nil
abbrev lX:=@List.map_append
abbrev mP:=@List.getElem?_append_left
abbrev nC:=@Nat.add_zero
abbrev nO:=@Bool.or_eq_true
abbrev nR:=@Prod.mk.injEq
abbrev oC:=@List.lt_irrefl
abbrev oD:=@Nat.xor_assoc
abbrev qh:=@Array.getElem?_eq_some_iff
abbrev qj:=@List.mem_map
abbrev ql:=@Nat.zero_le
abbrev qK:=@List.all_cons
abbrev qL:=@List.append_nil
abbrev qM:=@Nat.add_mul
abbrev qN:=@Option.getD_some
abbrev qZ:=@Int.natCast_zero
abbrev ru:=@List.getElem?_drop
abbrev rC:=@List.mem_of_getElem?
abbrev rF:=@Nat.mul_le_mul_right
abbrev sJ:=@BitVec.toNat_ofInt
abbrev sK:=@List.drop_drop
abbrev sO:=@Nat.le_of_ble_eq_true
abbrev uw:=@List.getElem?_cons_succ
abbrev uy:=@List.mem_singleton
abbrev uD:=@Option.getD_none
abbrev uG:=@Sem.run_ite
abbrev uK:=@congrArg
abbrev vC:=@Array.getElem?_toList
abbrev vF:=@List.getElem?_append_right
abbrev vG:=@List.getElem?_eq_none
abbrev vJ:=@Option.bind_eq_some_iff
abbrev wU:=@Bool.eq_iff_iff
abbrev wX:=@Int.toNat_natCast
abbrev wY:=@List.mem_cons_of_mem
abbrev wZ:=@Nat.lt_of_lt_of_le
abbrev xR:=@List.getD_eq_getElem?_getD
abbrev xU:=@Nat.lt_or_ge
abbrev yI:=@Array.getD_eq_getD_getElem?
abbrev yJ:=@Bool.not_eq_true'
abbrev yL:=@List.cons.injEq
abbrev yM:=@List.lt_trans
abbrev yN:=@List.mem_range
abbrev yO:=@List.take_length
abbrev yQ:=@Option.bind_some
abbrev zJ:=@Bool.false_or
abbrev zM:=@Int.le_refl
abbrev zN:=@List.not_lt
abbrev zQ:=@Nat.sub_self
abbrev BH:=@Array.getElem?_eq_getElem
abbrev BI:=@Array.getElem?_setIfInBounds
abbrev BK:=@List.take_add
abbrev BL:=@List.take_succ_cons
abbrev BM:=@Nat.lt_succ_self
abbrev D9:=@Bool.true_and
abbrev Ea:=@Int.fdiv_eq_ediv_of_nonneg
abbrev Eb:=@Int.natCast_add
abbrev Ec:=@List.getElem?_toArray
abbrev Ed:=@List.length_singleton
abbrev Fv:=@of_decide_eq_true
abbrev F6:=@Int.toNat_of_nonneg
abbrev F8:=@List.length_set
abbrev F9:=@List.mem_nil_iff
abbrev Gg:=@Nat.mul_comm
abbrev Gh:=@Nat.one_mul
abbrev Gi:=@Nat.sub_zero
abbrev Gj:=@Option.some.inj
abbrev G6:=@decide_eq_false
abbrev G7:=@decide_eq_true
abbrev Jw:=@Array.getElem?_modify
abbrev Jy:=@Array.length_toList
abbrev JF:=@List.drop_take
abbrev JG:=@List.ext_getElem?
abbrev JH:=@List.getElem?_of_mem
abbrev JI:=@List.length_pos_iff
abbrev JJ:=@List.mem_filter
abbrev JK:=@List.mem_of_mem_take
abbrev JL:=@List.take_append_drop
abbrev JM:=@Nat.add_comm
abbrev JO:=@Nat.le_of_eq
abbrev JQ:=@Nat.min_eq_left
abbrev JR:=@Nat.pow_succ
abbrev JU:=@Option.isNone_some
abbrev JV:=@Prod.exists
abbrev Nj:=@Array.ext'
abbrev Nk:=@Array.getElem?_push
abbrev Nl:=@Bool.or_false
abbrev Nr:=@List.mem_of_mem_drop
abbrev Ns:=@List.replicate_succ
abbrev Nu:=@List.singleton_append
abbrev Nv:=@Nat.mod_eq_of_lt
abbrev Nw:=@Nat.mul_pos
abbrev Qr:=@Array.ext_getElem?
abbrev Qs:=@Bool.and_true
abbrev Qu:=@Classical.em
abbrev Qx:=@List.le_antisymm
abbrev Qy:=@List.length_eq_zero_iff
abbrev Qz:=@List.mem_cons_self
abbrev QA:=@List.take_append_of_le_length
abbrev QB:=@List.take_zero
abbrev QC:=@Nat.add_sub_cancel'
abbrev QD:=@Nat.eq_zero_or_pos
abbrev QE:=@Nat.mul_div_cancel
abbrev QF:=@Nat.pow_le_pow_right
abbrev QG:=@Nat.testBit_or
abbrev QL:=@World.ownsRow_made
abbrev Wv:=@Array.getElem?_append_left
abbrev Wx:=@Array.mapM_eq_mapM_toList
abbrev Wy:=@BitVec.toNat_and
abbrev WA:=@Bool.false_and
abbrev WB:=@Bool.not_true
abbrev WC:=@List.drop_append_of_le_length
abbrev WE:=@List.drop_succ_cons
abbrev WG:=@List.findIdx?_cons
abbrev WH:=@List.head?_cons
abbrev WI:=@List.length_eq_one_iff
abbrev WJ:=@List.length_filter_le
abbrev WM:=@List.map_set
abbrev WO:=@List.mem_append_left
abbrev WQ:=@List.mem_flatMap
abbrev WR:=@List.mem_iff_getElem?
abbrev WS:=@List.pairwise_iff_getElem
abbrev WT:=@List.take_add_one
abbrev WV:=@Nat.add_sub_cancel_left
abbrev WW:=@Nat.mul_le_mul_left
abbrev WX:=@Option.isSome_some
abbrev WY:=@Sem.run_map
abbrev Xa:=@UInt8.toNat_inj
abbrev abQ:=@Array.eq_empty_of_size_eq_zero
abbrev abR:=@Array.map_empty
abbrev abS:=@Array.size_range
abbrev abT:=@BitVec.toNat_not
abbrev abU:=@BitVec.toNat_or
abbrev abV:=@BitVec.xor_allOnes
abbrev ab4:=@Int.zero_add
abbrev ab5:=@List.Perm.refl
abbrev ab6:=@List.all_append
abbrev ab7:=@List.all_nil
abbrev ab8:=@List.any_cons
abbrev ab9:=@List.cons_lt_cons_iff
abbrev acd:=@List.contains_iff_mem
abbrev ace:=@List.drop_append
abbrev acf:=@List.drop_sublist
abbrev acg:=@List.flatMap_append
abbrev ach:=@List.getElem?_range
abbrev aci:=@List.mapM_cons
abbrev acj:=@List.map_take
abbrev acn:=@List.mem_append_right
abbrev aco:=@List.mem_of_getLast?
abbrev acp:=@List.mem_or_eq_of_mem_set
abbrev acr:=@List.mem_replicate
abbrev acs:=@List.take_take
abbrev acu:=@Nat.and_two_pow_sub_one_eq_mod
abbrev acv:=@Nat.ble_eq_true_of_le
abbrev acw:=@Nat.le_mul_of_pos_right
abbrev acy:=@Nat.mod_two_eq_zero_or_one
abbrev acz:=@Nat.mul_assoc
abbrev acB:=@Option.isSome_none
abbrev acC:=@Option.map_eq_none_iff
abbrev acD:=@Option.map_none
abbrev acE:=@Option.toList_some
abbrev acH:=@UInt8.toNat_ofNat'
abbrev acK:=@World.cell?_of_block
abbrev ajP:=@Classical.choose_spec
abbrev ajR:=@List.concat_eq_append
abbrev ajS:=@List.eq_nil_or_concat
abbrev ajT:=@List.filter_cons_of_neg
abbrev ajU:=@List.filter_cons_of_pos
abbrev ajV:=@List.mem_zipIdx_iff_getElem?
abbrev ajW:=@List.perm_append_comm
abbrev ajY:=@Nat.two_pow_add_eq_or_of_lt
abbrev ajZ:=@Option.isSome_iff_exists
abbrev aj0:=@Option.ne_none_iff_exists'
inductive GV where
 |b (x:Bool)
 |i (k:IntKind) (n:Int)
 |s (x:Q0)
 |l (xs:List GV)
 |g (cs:List GV)
 deriving Inhabited
abbrev W6:=Nat->Option GV
abbrev W0:=Option GV
abbrev Q1:=List GV
abbrev Wk:=Option Q1
def GV.cells:GV->List GV
 |.g cs=>cs
 |v=>[v]
def GV.scalar:GV->Bool
 |.g _=>false
 |_=>true
def GV.fC(size:Nat)(g:GV):Bool:=Nat.beq g.cells.length size&&g.cells.all GV.scalar
def bQ(op:BinOp)(k:IntKind)(a b:Int):W0:=
 match op with
 |.add=>some (.i k (k.wrap (a+b)))
 |.sub=>some (.i k (k.wrap (a-b)))
 |.mul=>some (.i k (k.wrap (a*b)))
 |.quo=>if b=0 then none else some (.i k (k.wrap (a.tdiv b)))
 |.rem=>if b=0 then none else some (.i k (a.tmod b))
 |.and=>some (.i k (k.wrap (BitVec.ofInt k.bits a &&& BitVec.ofInt k.bits b).toNat))
 |.or=>some (.i k (k.wrap (BitVec.ofInt k.bits a |||BitVec.ofInt k.bits b).toNat))
 |.xor=>some (.i k (k.wrap (BitVec.ofInt k.bits a ^^^ BitVec.ofInt k.bits b).toNat))
 |.andNot=>some (.i k (k.wrap (BitVec.ofInt k.bits a &&& ~~~ BitVec.ofInt k.bits b).toNat))
 |.eql=>some (.b (a==b))
 |.neq=>some (.b (a !=b))
 |.lss=>some (.b (decide (a<b)))
 |.leq=>some (.b (decide (a<=b)))
 |.gtr=>some (.b (decide (a>b)))
 |.geq=>some (.b (decide (a>=b)))
 |_=>none
def jB(op:BinOp)(k:IntKind)(a b:Int):W0:=
 if b<0 then none else
 match op with
 |.shl=>some (.i k (k.wrap (a*2^(min b.toNat k.bits))))
 |.shr=>some (.i k (a.fdiv (2^(min b.toNat k.bits))))
 |_=>none
def wM(op:BinOp)(a b:Q0):W0:=
 match op with
 |.add=>if((a.length+b.length:Nat):Int)<=IntKind.i64.max then some (.s (a++b))else none
 |.eql=>some (.b (a==b))
 |.neq=>some (.b (!(a==b)))
 |.lss=>some (.b (Op.bytesLess a b))
 |.leq=>some (.b (Op.bytesLess a b ||a==b))
 |.gtr=>some (.b (!(Op.bytesLess a b ||a==b)))
 |.geq=>some (.b (!(Op.bytesLess a b)))
 |_=>none
def lQ:Q2->List GV->List GV->Option Bool
 |[],[],[]=>some true
 |0::ks,.i k a::l,.i k' b::m=>if k=k' then(lQ ks l m).map ((a==b)&&·)else none
 |1::ks,.s a::l,.s b::m=>(lQ ks l m).map ((a==b)&&·)
 |2::ks,.b a::l,.b b::m=>(lQ ks l m).map ((a==b)&&·)
 |_,_,_=>none
def gZ(op:BinOp):GV->GV->Option GV
 |.i k a,.i k' b=>match op with
  |.shl=>jB .shl k a b
  |.shr=>jB .shr k a b
  |op=>if k=k' then bQ op k a b else none
 |.s a,.s b=>wM op a b
 |_,_=>none
def Rn(op:BinOp):GV->GV->Option GV
 |.b a,.b b=>match op with
  |.eql=>some (.b (a==b))
  |.neq=>some (.b (!(a==b)))
  |_=>none
 |_,_=>none
def J7(op:BinOp)(ks:Q2):GV->GV->Option GV
 |.g a,.g b=>match op with
  |.eql=>(lQ ks a b).map .b
  |.neq=>(lQ ks a b).map λr=>.b (!r)
  |_=>none
 |_,_=>none
def V8(op:UnOp):GV->Option GV
 |.b a=>match op with
  |.not=>some (.b (!a))
  |_=>none
 |.i k n=>match op with
  |.neg=>some (.i k (k.wrap (0-n)))
  |.xor=>bQ .xor k (if k.signed then -1 else k.max) n
  |_=>none
 |_=>none
def mY:Q1->Option Q0
 |[]=>some []
 |.i .u8 n::rest=>if 0<=n/\n<256 then(mY rest).map (UInt8.ofNat n.toNat::·)else none
 |_::_=>none
def bT(s:Q0):Q1:=s.map λb=>.i .u8 b.toNat
inductive Nd where
 |arg
 |ci (k:IntKind) (n:Int)
 |cb (x:Bool)
 |cs (x:Q0)
 |bin (op:BinOp) (a b:Nat)
 |Et (op:BinOp) (a b:Nat)
 |Eu (op:BinOp) (ks:Q2) (a b:Nat)
 |un (op:UnOp) (a:Nat)
 |mm (big:Bool) (a b:Nat)
 |conv (k:IntKind) (a:Nat)
 |len (a:Nat)
 |slen (a:Nat)
 |FN (a i:Nat)
 |FP (a lo hi:Nat)
 |Dk (size a lo hi:Nat)
 |idx (a i:Nat)
 |at(size a i:Nat)
 |cell (off a:Nat)
 |mk (l:Q2)
 |ml (l:Q2)
 |app (size bytes a b:Nat)
 |upd (size off a i:Nat) (vs:Q2)
 |rep (size bytes z l c:Nat)
 |bytes (a:Nat)
 |str (a:Nat)
 |FM (a:Nat)
 |same (a b:Nat)
 |zq (a j:Nat)
 |call (f:Nat) (l:Q2) (j:Nat)
 |Fe (z m k:Nat)
 |Fg (m k:Nat)
 |AY (m k v:Nat)
 deriving Inhabited
def oP:GV->GV->Bool
 |.i k a,.i k' b=>Nat.beq (IntKind.casesOn k 0 1 2 3 4 5 6 7) (IntKind.casesOn k' 0 1 2 3 4 5 6 7)&&a==b
 |.s a,.s b=>a==b
 |_,_=>false
def iE(k:GV):Q1->Option GV
 |[]=>none
 |.g [a,v]::l=>if oP k a=true then some v else iE k l
 |_::l=>iE k l
def lI(k v:GV):Q1->List GV
 |[]=>[.g [k,v]]
 |.g [a,u]::l=>if oP k a=true then .g [k,v]::l else .g [a,u]::lI k v l
 |x::l=>x::lI k v l
def valsOf(val:W6):Q2->Option Q1
 |[]=>some []
 |n::l=>match val n,valsOf val l with
  |some g,some r=>some (g::r)
  |_,_=>none
def GV.int:GV->Option Int
 |.i _ n=>some n
 |_=>none
def putCells(cs:Q1)(off:Nat)(vs:Q1):Wk:=
 if off+vs.length<=cs.length then some (cs.take off++vs++cs.drop (off+vs.length))else none
def GV.put(x:GV)(off:Nat)(vs:Q1):W0:=
 match x with
 |.g cs=>(putCells cs off vs).map .g
 |_=>match off,vs with
  |0,[v]=>some v
  |_,_=>none
def Nd.den(I:Nat->List GV->Option Q1)(val:W6):Nd->Option GV
 |.arg=>none
 |.ci k n=>some (.i k n)
 |.cb x=>some (.b x)
 |.cs x=>some (.s x)
 |.bin op a b=>match val a,val b with
  |some x,some y=>gZ op x y
  |_,_=>none
 |.Et op a b=>match val a,val b with
  |some x,some y=>Rn op x y
  |_,_=>none
 |.Eu op ks a b=>match val a,val b with
  |some x,some y=>J7 op ks x y
  |_,_=>none
 |.un op a=>match val a with
  |some x=>V8 op x
  |none=>none
 |.mm big a b=>match val a,val b with
  |some (.i k x),some (.i k' y)=>if k=k' then some (.i k (if big then(if x<y then y else x)else(if y<x then y else x)))else none
  |_,_=>none
 |.conv k a=>match val a with
  |some (.i _ n)=>some (.i k (k.wrap n))
  |_=>none
 |.len a=>match val a with
  |some (.l xs)=>some (.i .i64 xs.length)
  |_=>none
 |.slen a=>match val a with
  |some (.s x)=>some (.i .i64 x.length)
  |_=>none
 |.FN a i=>match val a,val i with
  |some (.s x),some (.i _ k)=>if 0<=k then match x[k.toNat]? with
   |some c=>some (.i .u8 c.toNat)
   |none=>none
   else none
  |_,_=>none
 |.FP a lo hi=>match val a,val lo,val hi with
  |some (.s x),some (.i _ l),some (.i _ h)=>if 0<=l/\l<=h/\h<=x.length then some (.s ((x.take h.toNat).drop l.toNat))else none
  |_,_,_=>none
 |.Dk size a lo hi=>match val a,val lo,val hi with
  |some (.l xs),some (.i _ l),some (.i _ h)=>if 0<=l/\l<=h/\h<=xs.length/\(xs.all λx=>Nat.beq x.cells.length size)=true then some (.l ((xs.take h.toNat).drop l.toNat))else none
  |_,_,_=>none
 |.idx a i=>match val a,val i with
  |some (.l xs),some (.i _ k)=>if 0<=k/\k<xs.length then some (.i .i64 k)else none
  |_,_=>none
 |.at size a i=>match val a,val i with
  |some (.l xs),some (.i _ k)=>if 0<=k then match xs[k.toNat]? with
   |some x=>if x.cells.length=size then some x else none
   |none=>none
   else none
  |_,_=>none
 |.cell off a=>match val a with
  |some g=>match g.cells[off]? with
   |some c=>if c.scalar then some c else none
   |none=>none
  |none=>none
 |.mk l=>match valsOf val l with
  |some gs=>if gs.all GV.scalar then some (.g gs)else none
  |none=>none
 |.ml l=>(valsOf val l).map .l
 |.app size bs a b=>match val a,val b with
  |some (.l xs),some (.l ys)=>if ys.all (GV.fC size)=true/\2*(xs.length+ys.length)*bs<=2^48/\xs.length+ys.length<=2^48 then some (.l (xs++ys))else none
  |_,_=>none
 |.upd size off a i vs=>match val a,val i,valsOf val vs with
  |some (.l xs),some (.i _ k),some gs=>
   if 0<=k/\gs.all GV.scalar=true then match xs[k.toNat]? with
   |some x=>if x.cells.length=size then(x.put off gs).map λy=>.l (xs.set k.toNat y)else none
   |none=>none
   else none
  |_,_,_=>none
 |.rep size Xv z l c=>match val z,val l,val c with
  |some x,some (.i _ n),some (.i _ m)=>if 0<=n/\n<=m/\Xv*m<=2^48/\m<=2^60/\x.fC size=true then some (.l (List.replicate n.toNat x))else none
  |_,_,_=>none
 |.bytes a=>match val a with
  |some (.s x)=>some (.l (bT x))
  |_=>none
 |.str a=>match val a with
  |some (.l xs)=>if xs.length<=2^48 then(mY xs).map .s else none
  |_=>none
 |.FM a=>match val a with
  |some (.s x)=>some (.s x)
  |_=>none
 |.same a b=>match val a,val b with
  |some (.l xs),some (.l ys)=>if ys.length=xs.length then some (.l ys)else none
  |_,_=>none
 |.zq a j=>match val a with
  |some (.i _ m)=>some (.b (decide (m=(j:Int))))
  |_=>none
 |.call f l j=>match valsOf val l with
  |some gs=>match I f gs with
   |some r=>r[j]?
   |none=>none
  |none=>none
 |.Fe z m k=>match val z,val m,val k with
  |some d,some (.l xs),some g=>some ((iE g xs).getD d)
  |_,_,_=>none
 |.Fg m k=>match val m,val k with
  |some (.l xs),some g=>some (.b (iE g xs).isSome)
  |_,_=>none
 |.AY m k v=>match val m,val k,val v with
  |some (.l xs),some g,some u=>some (.l (lI g u xs))
  |_,_,_=>none
def uU(o:BinOp):Nat:=BinOp.casesOn o 0 1 2 3 4 5 6 7 8 9 10 11 12 13 14 15 16
theorem auJ{o o':BinOp}(h:Nat.beq (uU o) (uU o')=true):o=o':=by cases o<;>cases o'<;>first|rfl|(simp[uU]at h)
def Jm(o:UnOp):Nat:=UnOp.casesOn o 0 1 2 3
theorem aAC{o o':UnOp}(h:Nat.beq (Jm o) (Jm o')=true):o=o':=by cases o<;>cases o'<;>first|rfl|(simp[Jm]at h)
def kc(k:IntKind):Nat:=IntKind.casesOn k 0 1 2 3 4 5 6 7
theorem Uf{o o':IntKind}(h:Nat.beq (kc o) (kc o')=true):o=o':=by cases o<;>cases o'<;>first|rfl|(simp[kc]at h)
def xF:Q2->List Nat->Bool
 |[],[]=>true
 |a::l,b::m=>Nat.beq a b&&xF l m
 |_,_=>false
theorem ZG:∀{l m:Q2},xF l m=true->l=m
 |[],[],_=>rfl
 |a::l,b::m,h=>by simp only[xF,aK]at h;rw[bD h.1,ZG h.2]
 |[],_::_,h=>by simp[xF]at h
 |_::_,[],h=>by simp[xF]at h
def Ad:Q0->List UInt8->Bool
 |[],[]=>true
 |a::l,b::m=>Nat.beq a.toNat b.toNat&&Ad l m
 |_,_=>false
theorem Xx:∀{l m:Q0},Ad l m=true->l=m
 |[],[],_=>rfl
 |a::l,b::m,h=>by simp only[Ad,aK]at h;rw[Xa.1 (bD h.1),Xx h.2]
 |[],_::_,h=>by simp[Ad]at h
 |_::_,[],h=>by simp[Ad]at h
def H9(a b:Int):Bool:=match a,b with
 |.ofNat m,.ofNat n=>Nat.beq m n
 |.negSucc m,.negSucc n=>Nat.beq m n
 |_,_=>false
theorem afT{a b:Int}(h:H9 a b=true):a=b:=by
 unfold H9 at h;split at h
 ·rw[bD h]
 ·rw[bD h]
 ·cases h
def Nd.eq(x y:Nd):Bool:=
 match x with
 |.arg=>false
 |.ci k n=>match y with|.ci k' n'=>Nat.beq (kc k) (kc k')&&H9 n n'|_=>false
 |.cb b=>match y with|.cb b'=>(bif b then b' else !b')|_=>false
 |.cs s=>match y with|.cs s'=>Ad s s'|_=>false
 |.bin op a b=>match y with|.bin op' a' b'=>Nat.beq a a'&&Nat.beq b b'&&Nat.beq (uU op) (uU op')|_=>false
 |.Et op a b=>match y with|.Et op' a' b'=>Nat.beq a a'&&Nat.beq b b'&&Nat.beq (uU op) (uU op')|_=>false
 |.Eu op ks a b=>match y with|.Eu op' ks' a' b'=>Nat.beq a a'&&Nat.beq b b'&&Nat.beq (uU op) (uU op')&&xF ks ks'|_=>false
 |.un op a=>match y with|.un op' a'=>Nat.beq a a'&&Nat.beq (Jm op) (Jm op')|_=>false
 |.mm g a b=>match y with|.mm g' a' b'=>Nat.beq a a'&&Nat.beq b b'&&(bif g then g' else !g')|_=>false
 |.conv k a=>match y with|.conv k' a'=>Nat.beq a a'&&Nat.beq (kc k) (kc k')|_=>false
 |.len a=>match y with|.len a'=>Nat.beq a a'|_=>false
 |.slen a=>match y with|.slen a'=>Nat.beq a a'|_=>false
 |.FN a i=>match y with|.FN a' i'=>Nat.beq a a'&&Nat.beq i i'|_=>false
 |.FP a l h=>match y with|.FP a' l' h'=>Nat.beq a a'&&Nat.beq l l'&&Nat.beq h h'|_=>false
 |.Dk s a l h=>match y with|.Dk s' a' l' h'=>Nat.beq s s'&&Nat.beq a a'&&Nat.beq l l'&&Nat.beq h h'|_=>false
 |.idx a i=>match y with|.idx a' i'=>Nat.beq a a'&&Nat.beq i i'|_=>false
 |.at s a i=>match y with|.at s' a' i'=>Nat.beq s s'&&Nat.beq a a'&&Nat.beq i i'|_=>false
 |.cell o a=>match y with|.cell o' a'=>Nat.beq o o'&&Nat.beq a a'|_=>false
 |.mk l=>match y with|.mk l'=>xF l l'|_=>false
 |.ml l=>match y with|.ml l'=>xF l l'|_=>false
 |.app z s a b=>match y with|.app z' s' a' b'=>Nat.beq z z'&&Nat.beq s s'&&Nat.beq a a'&&Nat.beq b b'|_=>false
 |.upd s o a i vs=>match y with|.upd s' o' a' i' vs'=>Nat.beq s s'&&Nat.beq o o'&&Nat.beq a a'&&Nat.beq i i'&&xF vs vs'|_=>false
 |.rep s b z l c=>match y with|.rep s' b' z' l' c'=>Nat.beq s s'&&Nat.beq b b'&&Nat.beq z z'&&Nat.beq l l'&&Nat.beq c c'|_=>false
 |.bytes a=>match y with|.bytes a'=>Nat.beq a a'|_=>false
 |.str a=>match y with|.str a'=>Nat.beq a a'|_=>false
 |.FM a=>match y with|.FM a'=>Nat.beq a a'|_=>false
 |.same a b=>match y with|.same a' b'=>Nat.beq a a'&&Nat.beq b b'|_=>false
 |.zq a j=>match y with|.zq a' j'=>Nat.beq a a'&&Nat.beq j j'|_=>false
 |.call f l j=>match y with|.call f' l' j'=>Nat.beq f f'&&Nat.beq j j'&&xF l l'|_=>false
 |.Fe z m k=>match y with|.Fe z' m' k'=>Nat.beq z z'&&Nat.beq m m'&&Nat.beq k k'|_=>false
 |.Fg m k=>match y with|.Fg m' k'=>Nat.beq m m'&&Nat.beq k k'|_=>false
 |.AY m k v=>match y with|.AY m' k' v'=>Nat.beq m m'&&Nat.beq k k'&&Nat.beq v v'|_=>false
theorem UL{a b:Nat}:Nat.beq a b=true↔a=b:=⟨Nat.eq_of_beq_eq_true,λh=>by rw[h];exact Nat.beq_refl b⟩
theorem auo{l m:Q2}:xF l m=true↔l=m:=⟨ZG,λh=>by subst h;induction l with|nil=>rfl|cons a l ih=>simp[xF,ih]⟩
theorem adk{l m:Q0}:Ad l m=true↔l=m:=⟨Xx,λh=>by subst h;induction l with|nil=>rfl|cons a l ih=>simp[Ad,ih]⟩
theorem afU{a b:Int}:H9 a b=true↔a=b:=⟨afT,λh=>by subst h;cases a<;>simp[H9]⟩
theorem ahd{o o':BinOp}:uU o=uU o'↔o=o':=⟨λh=>auJ (UL.2 h),λh=>by rw[h]⟩
theorem aAB{o o':UnOp}:Jm o=Jm o'↔o=o':=⟨λh=>aAC (UL.2 h),λh=>by rw[h]⟩
theorem asC{o o':IntKind}:kc o=kc o'↔o=o':=⟨λh=>Uf (UL.2 h),λh=>by rw[h]⟩
theorem Rl{a b:Bool}:(bif a then b else !b)=true↔a=b:=by cases a<;>cases b<;>simp
theorem Nd.eq_of{x y:Nd}(h:x.eq y=true):x=y/\x≠.arg:=by
 cases x<;>simp only[Nd.eq]at h
 case arg=>cases h
 all_goals
  split at h
  ·simp only[aK,UL,auo,adk,afU,ahd,aAB,asC,Rl]at h;simp_all
  ·cases h
class gG where
 nodes:List Nd
 dec:Wd
 ka:Nat:=0
def Ou(x:Nd):List Nd->Nat->Option Nat
 |[],_=>none
 |y::l,k=>bif x.eq y then some k else Ou x l (k+1)
def fF[gG](x:Nd):QR:=Ou x gG.nodes 0
def Oj(n:Nat):Wd->Option Bool
 |[]=>none
 |p::l=>bif Nat.beq n p.1 then some p.2 else Oj n l
def X8[gG](n:Nat):WN:=Oj n gG.dec
theorem aeS{x:Nd}:∀{l:List Nd}{k n:Nat},Ou x l k=some n->k<=n/\l[n-k]? =some x/\x≠.arg
 |[],_,_,h=>by simp[Ou]at h
 |y::l,k,n,h=>by
  simp only[Ou]at h;cases he:x.eq y with
  |true=>rw[he]at h;simp only[cond_true,aW]at h;subst h;obtain⟨rfl,h2⟩:=Nd.eq_of he;exact⟨Nat.le_refl _,by simp,h2⟩
  |false=>
   rw[he]at h;simp only[cond_false]at h;obtain⟨h1,h2,h3⟩:=aeS h;refine⟨by omega,?_,h3⟩;have:n-k=(n-(k+1))+1:=by omega
   rw[this,uw];exact h2
theorem aqb[gG]{x:Nd}{n:Nat}(h:fF x=some n):gG.nodes[n]? =some x/\x≠.arg:=by obtain⟨_,h2,h3⟩:=aeS h;exact⟨by simpa using h2,h3⟩
theorem Ol{n:Nat}{b:Bool}:∀{l:Wd},Oj n l=some b->(n,b)∈l
 |[],h=>by simp[Oj]at h
 |p::l,h=>by
  simp only[Oj]at h;cases he:Nat.beq n p.1 with
  |true=>
   rw[he]at h;simp only[cond_true,aW]at h;have:p=(n,b):=by rw[<-h,bD he]
   rw[this];simp
  |false=>rw[he]at h;simp only[cond_false]at h;exact wY _ (Ol h)
inductive AV where
 |b (x:Bool)
 |i (k:IntKind) (n:Int)
 |s (x:Q0)
 |jr
 |p (id off:Nat)
 |fV
 |sl (id off len:Nat) (cap:QR)
 |oU
 |mp (id:Nat)
 |yw
 |fn (f:FuncId) (first caps:List AV)
 |rW
 |iW (t:TypeId) (v:AV)
 |agg (l:List AV)
 |dP (l:List AV)
 |z (k:IntKind) (lo hi:Int)
 |ro (l:List AV)
 |rp (a:AV) (off:Nat)
 |nd (n:Nat)
 |rx (n off:Nat)
 |sv (id n:Nat)
 |pv (id n off:Nat)
 |pd (id n:Nat)
 deriving Inhabited
abbrev Xs:=List (AV×AV)
abbrev Wf:=List (Nat×AV)
abbrev QP:=Operand->Option AV
abbrev Q4:=Option AV
abbrev Q3:=List AV
abbrev Qt:=List (Nat×Q3)
structure Place where
 bl:Nat
 ba:Nat
 sz:Nat
 es:Nat
structure Env where
 pl:Nat->Option Place
 ro:Nat->Option Obj
 gh:Nat->Bool
instance:CoeFun Env (λ_=>Nat->Option Place):=⟨Env.pl⟩
class aH extends gG where
 tabs:Qt
 I:Nat->List GV->Option Q1
 val:Nat->Option GV
 qE:∀(n:Nat) nd,nodes[n]? =some nd->nd≠.arg->∃g,val n=some g/\nd.den I val=some g
 Ak:∀(n:Nat)(b:Bool),(n,b)∈dec->val n=some (.b b)
def bY(xs:Q6):Q6:=xs.flatMap λx=>x.cells.toList
def EC(cs:QQ)(off:Nat)(l:Q6):Prop:=∀(k:Nat) x,l[k]? =some x->cs[off+k]? =some x
mutual
def GR(ro:Qf):GV->Value->Prop
 |.b x,v=>v=.bool x
 |.i k n,v=>v=.int k n
 |.s x,v=>v=.string ⟨⟨x⟩⟩
 |.g cs,v=>∃vs,v=.agg ⟨vs⟩/\aO ro cs vs
 |.l xs,v=>(xs=[]/\∃p,v=.slice p 0 0)\/∃bl off c ys sz,v=.slice (some ⟨bl,off,none⟩) xs.length c/\xs.length<=c/\aO ro xs ys/\(∀x∈ys,x.cells.size=sz)/\
   (xs≠[]->∃cs elem fr,ro bl=some (.cells cs elem fr)/\off+(bY ys).length<=cs.size/\EC cs off (bY ys))
def aO(ro:Qf):Q1->List Value->Prop
 |[],vs=>vs=[]
 |a::l,vs=>∃x xs,vs=x::xs/\GR ro a x/\aO ro l xs
end
variable[aH]
mutual
def VR(F:Env):AV->Value->Prop
 |.b x,v=>v=.bool x
 |.i k n,v=>v=.int k n
 |.s x,v=>v=.string ⟨⟨x⟩⟩
 |.jr,v=>v=.pointer none
 |.p id off,v=>∃q,F id=some q/\v=.pointer (some ⟨q.bl,q.ba+off,none⟩)
 |.fV,v=>v=.slice none 0 0
 |.sl id off len cap,v=>∃q,F id=some q/\len<=cap.getD ((q.sz-off)/q.es)/\v=.slice (some ⟨q.bl,q.ba+off,none⟩) len (cap.getD ((q.sz-off)/q.es))
 |.oU,v=>v=.map none
 |.mp id,v=>∃q,F id=some q/\v=.map (some q.bl)
 |.yw,v=>v=.nilFunc
 |.fn f fi caps,v=>∃us vs,v=.func (.func f) ⟨us⟩ ⟨vs⟩/\aC F fi us/\aC F caps vs
 |.rW,v=>v=.nilIface
 |.iW t a,v=>∃x,v=.iface t x/\VR F a x
 |.agg l,v=>∃vs,v=.agg ⟨vs⟩/\aC F l vs
 |.dP l,v=>∃vs,v=.tuple ⟨vs⟩/\aC F l vs
 |.z k lo hi,v=>∃n:Int,lo<=n/\n<=hi/\v=.int k n
 |.ro l,v=>(l=[]/\∃p,v=.slice p 0 0)\/∃bl off c xs sz,v=.slice (some ⟨bl,off,none⟩) l.length c/\l.length<=c/\aC F l xs/\(∀x∈xs,x.cells.size=sz)/\
   (l≠[]->∃cs elem fr,F.ro bl=some (.cells cs elem fr)/\off+(bY xs).length<=cs.size/\EC cs off (bY xs))
 |.rp a off,v=>∃bl base cs elem fr x,F.ro bl=some (.cells cs elem fr)/\VR F a x/\v=.pointer (some ⟨bl,base+off,none⟩)/\base+x.cells.size<=cs.size/\EC cs base x.cells.toList
 |.nd n,v=>∃g,aH.val n=some g/\g.scalar=true/\GR F.ro g v
 |.rx n off,v=>∃g bl base cs elem fr x,aH.val n=some g/\F.ro bl=some (.cells cs elem fr)/\GR F.ro g x/\v=.pointer (some ⟨bl,base+off,none⟩)/\base+x.cells.size<=cs.size/\EC cs base x.cells.toList
 |.sv id n,v=>∃xs,aH.val n=some (.l xs)/\((∃q,F id=some q/\xs.length<=q.sz/q.es/\v=.slice (some ⟨q.bl,q.ba,none⟩) xs.length (q.sz/q.es))\/(F.gh id=true/\xs=[]/\v=.slice none 0 0))
 |.pv id n off,v=>∃q k i,F id=some q/\aH.val n=some (.i k i)/\v=.pointer (some ⟨q.bl,q.ba+i.toNat*q.es+off,none⟩)
 |.pd id n,v=>∃xs p,aH.val n=some (.l xs)/\v=.pointer p/\(xs≠[]->∃q,F id=some q/\p=some ⟨q.bl,q.ba,none⟩)
def aC(F:Env):Q3->List Value->Prop
 |[],vs=>vs=[]
 |a::l,vs=>∃x xs,vs=x::xs/\VR F a x/\aC F l xs
end
inductive Tr(α:Type) where
 |nil
 |nd (v:Option α) (l r:Tr α)
 deriving Inhabited
def Tr.val{α:Type}(t:Tr α):Option α:=Tr.casesOn t none (λv _ _=>v)
def Tr.Dj{α:Type}(t:Tr α):Tr α:=Tr.casesOn t .nil (λ_ l _=>l)
def Tr.Dx{α:Type}(t:Tr α):Tr α:=Tr.casesOn t .nil (λ_ _ r=>r)
def Tr.tN{α:Type}(p:List Bool):Tr α->Option α:=List.rec (motive:=λ_=>Tr α->Option α) Tr.val (λb _ ih t=>ih (bif b then t.Dj else t.Dx)) p
def Tr.Je{α:Type}(x:Option α)(p:List Bool):Tr α->Tr α:=List.rec (motive:=λ_=>Tr α->Tr α) (λt=>.nd x t.Dj t.Dx)
 (λb _ ih t=>bif b then .nd t.val (ih t.Dj) t.Dx else .nd t.val t.Dj (ih t.Dx)) p
def Pz(f:Nat):Nat->List Bool:=Nat.rec (motive:=λ_=>Nat->List Bool) (λ_=>[]) (λ_ ih n=>bif Nat.beq n 0 then[]else Nat.beq ((n-1)%2) 0::ih ((n-1)/2)) f
def path(n:Nat):List Bool:=Pz (Nat.log2 n+1) n
def Tr.get{α:Type}(t:Tr α)(n:Nat):Option α:=Tr.tN (path n) t
def Tr.set{α:Type}(t:Tr α)(n:Nat)(x:Option α):Tr α:=Tr.Je x (path n) t
inductive bn where
 |cells (c:Q3) (et:TypeId) (rw opn:Bool)
 |iter (s:Q0) (pos:Nat)
 |map (es:Xs)
 |iterM (m:QR)
 |vec (n:Nat) (et:TypeId) (f:Bool)
 |smap (n:Nat) (kk:Wc) (sz:QR)
 |pmap (es:List (Q0×AV))
 deriving Inhabited
abbrev WP:=List (Nat×bn)
abbrev WF:=List (Nat×Option bn)
structure aA where
 h:Tr bn
 next:Nat
 lock:Nat
 deriving Inhabited
abbrev Wb:=Option (AV×aA)
abbrev W2:=Option (Q4×aA)
def aA.get(J:aA)(id:Nat):Option bn:=J.h.get id
def aA.put(J:aA)(id:Nat)(o:bn):aA:={J with h:=J.h.set id (some o)}
def aA.kill(J:aA)(id:Nat):aA:={J with h:=J.h.set id none}
def aA.new(J:aA)(o:bn):aA:={J with h:=J.h.set J.next (some o),next:=J.next+1}
def tZ{α β:Type}(f:α->Option β):List α->Option (List β)
 |[]=>some []
 |x::xs=>match f x with
  |none=>none
  |some y=>match tZ f xs with
   |none=>none
   |some ys=>some (y::ys)
def AV.toVal:Nat->AV->Option Value
 |0,_=>none
 |n+1,a=>
  match a with
  |.b x=>some (.bool x)
  |.i k x=>some (.int k x)
  |.s x=>some (.string ⟨⟨x⟩⟩)
  |.jr=>some (.pointer none)
  |.fV=>some (.slice none 0 0)
  |.oU=>some (.map none)
  |.yw=>some .nilFunc
  |.rW=>some .nilIface
  |.iW t v=>(AV.toVal n v).map (.iface t)
  |.agg l=>(tZ (AV.toVal n) l).map λvs=>.agg ⟨vs⟩
  |.dP l=>(tZ (AV.toVal n) l).map λvs=>.tuple ⟨vs⟩
  |_=>none
def lT:Nat->Value->Option AV
 |0,_=>none
 |n+1,v=>
  match v with
  |.bool x=>some (.b x)
  |.int k x=>some (.i k x)
  |.string s=>some (.s s.data.toList)
  |.pointer none=>some .jr
  |.slice none 0 0=>some .fV
  |.map none=>some .oU
  |.nilFunc=>some .yw
  |.nilIface=>some .rW
  |.iface t x=>(lT n x).map (.iW t)
  |.agg cs=>(tZ (lT n) cs.toList).map .agg
  |.tuple cs=>(tZ (lT n) cs.toList).map .dP
  |_=>none
def pY{α:Type}(P:Program):Sem α->Option α
 |.pure a=>some a
 |.program k=>pY P (k P)
 |.mark _ k=>pY P k
 |_=>none
structure bg where
 t:Tr AV
 n:Nat
 gn:Nat
def bg.eval(a:bg):Operand->Option AV
 |.tmp t=>a.t.get t
 |.const v=>lT 4 v
 |.global g=>if g<a.gn then some (.p g 0)else none
 |.func f=>some (.fn f [] [])
def bg.put(a:bg)(dst:Option Tmp)(v:Q4):Option bg:=
 match dst with
 |none=>some a
 |some d=>if d<a.n then some {a with t:=a.t.set d v}else none
def AV.cells:AV->List AV
 |.agg l=>l
 |v=>[v]
def AV.nH:AV->Bool
 |.agg _|.dP _=>false
 |_=>true
def yH(P:Program)(t:TypeId):Option Q3:=
 match P.info? t with
 |some i=>match i.zero with
  |some z=>(lT 4 z).map AV.cells
  |none=>none
 |none=>none
def nI(P:Program)(t:TypeId):WN:=
 match P.underlying t with
 |some (.struct _)|some (.array _ _)=>some true
 |some _=>some false
 |none=>none
def sizeT(P:Program)(t:TypeId):QR:=(P.info? t).map (·.size)
def takeN(l:Q3)(off n:Nat):Option Q3:=
 let r:=(l.drop off).take n
 if r.length=n then some r else none
def zG(l:Q3)(off:Nat)(vs:Q3):Option Q3:=
 if off+vs.length<=l.length then some (l.take off++vs++l.drop (off+vs.length))else none
def zU(place:Nat->Option (Nat×Nat))(cells:Q3):Wf->Option Q3
 |[]=>some cells
 |(i,v)::rest=>
  match place i with
  |none=>none
  |some (off,size)=>
   if v.cells.length=size then
    match zG cells off v.cells with
    |some cs=>zU place cs rest
    |none=>none
   else none
def EN(ev:QP):List (Nat×Operand)->Option Wf
 |[]=>some []
 |(i,x)::rest=>match ev x,EN ev rest with
  |some v,some r=>some ((i,v)::r)
  |_,_=>none
def Au(ev:QP):List Operand->Option Q3
 |[]=>some []
 |x::rest=>match ev x,Au ev rest with
  |some v,some r=>some (v::r)
  |_,_=>none
def QY(P:Program)(t:TypeId)(cs:Q3)(off:Nat):Q4:=
 match nI P t with
 |some true=>match sizeT P t with
  |some n=>(takeN cs off n).map .agg
  |none=>none
 |some false=>cs[off]?
 |none=>none
def P7(P:Program):List Field->Option Ww
 |[]=>some []
 |f::fs=>match sizeT P f.type,P7 P fs with
  |some n,some r=>some ((f.offset,n)::r)
  |_,_=>none
def QM(P:Program)(t:TypeId)(parts:Wf):Q4:=
 match yH P t,P.underlying t with
 |some zero,some (.struct fields)=>
  match P7 P fields.toList with
  |some places=>(zU (λi=>places[i]?) zero parts).map .agg
  |none=>none
 |some zero,some (.array _ elem)=>
  match sizeT P elem with
  |some size=>(zU (λi=>some (i*size,size)) zero parts).map .agg
  |none=>none
 |_,_=>none
def jk(n:Nat)(zero:Q3):Q3:=(List.replicate n zero).flatten
def vN(P:Program)(t:TypeId)(J:aA)(a:AV):Q4:=
 match a with
 |.p id off=>
  match J.get id with
  |some (.cells c _ _ _)=>
   match nI P t with
   |some true=>match sizeT P t with
    |some n=>(takeN c off n).map .agg
    |none=>none
   |some false=>c[off]?
   |none=>none
  |_=>none
 |.rp e off=>
  match nI P t with
  |some true=>match sizeT P t with
   |some n=>(takeN e.cells off n).map .agg
   |none=>none
  |some false=>e.cells[off]?
  |none=>none
 |_=>none
def Ei(P:Program)(t:TypeId)(J:aA)(a v:AV):Option aA:=
 match a with
 |.p id off=>
  match J.get id with
  |some (.cells c et true opn)=>
   if J.lock<=id/\sizeT P t=some v.cells.length/\v.cells.all AV.nH then
    (zG c off v.cells).map λc'=>J.put id (.cells c' et true opn)
   else none
  |_=>none
 |_=>none
def vM:AV->Option Int
 |.i _ n=>some n
 |_=>none
def zV(len:Nat)(room:Nat->Bool):Q4->Option Nat
 |none=>some len
 |some v=>match vM v with
  |some h=>if 0<=h/\room h.toNat=true then some h.toNat else none
  |none=>none
def JY(h:Nat):Q4->Option Nat
 |none=>some 0
 |some v=>match vM v with
  |some l=>if 0<=l/\l<=h then some l.toNat else none
  |none=>none
def xq(len:Nat)(room:Nat->Bool)(low high:Q4):Option (Nat×Nat):=
 match zV len room high with
 |none=>none
 |some h=>match JY h low with
  |none=>none
  |some l=>some (l,h)
def IV(ev:QP):Option Operand->Option Q4
 |none=>some none
 |some x=>(ev x).map some
end
noncomputable section
variable[gG]
def bytesOf:Q3->Option Q0
 |[]=>some []
 |.i .u8 n::rest=>if 0<=n/\n<256 then(bytesOf rest).map (UInt8.ofNat n.toNat::·)else none
 |_::_=>none
def vT(s:Q0):Q3:=s.map λb=>.i .u8 b.toNat
def wJ(a:AV):Wt:=a.toVal 4
def vW(P:Program)(t:TypeId):Option (TypeId×Nat×Nat×Q3):=
 match P.underlying t with
 |some (.slice e)=>match P.info? e,yH P e with
  |some i,some z=>if e≠0/\z.length=i.size then some (e,i.size,i.bytes,z)else none
  |_,_=>none
 |_=>none
def yE(J:aA)(size:Nat):AV->Option (Nat×Q3)
 |.fV=>some (0,[])
 |.sl id off len _=>match J.get id with
  |some (.cells c _ _ _)=>(takeN c off (len*size)).map λr=>(len,r)
  |_=>none
 |.s x=>if size=1 then some (x.length,vT x)else none
 |.ro l=>if l.all (λa=>a.cells.length==size)=true then some (l.length,l.flatMap AV.cells)else none
 |_=>none
def EX(P:Program)(t:TypeId):Bool:=
 match P.underlying t with
 |some (.slice _)|some .string=>true
 |_=>false
def sliceLen:AV->Nat
 |.sl _ _ n _=>n
 |_=>0
def pz(e size bytes:Nat)(s:AV)(n:Nat)(new:Q3)(J:aA):Wb:=
 if size=0\/new.all AV.nH=false\/¬(2*(sliceLen s+n)*bytes<=2^48/\sliceLen s+n<=2^48)then none else
 match s with
 |.fV=>if n=0 then some (.fV,J)else some (.sl J.next 0 n none,J.new (.cells new e true true))
 |.sl id off len (some cap)=>
  if len+n<=cap then
   if n=0 then some (s,J)else
   match J.get id with
   |some (.cells c et true opn)=>
    if J.lock<=id then
     (zG c (off+len*size) new).map λc'=>(.sl id off (len+n) (some cap),J.put id (.cells c' et true opn))
    else none
   |_=>none
  else
   match J.get id with
   |some (.cells c _ _ _)=>(takeN c off (len*size)).map λold=>(.sl J.next 0 (len+n) none,J.new (.cells (old++new) e true true))
   |_=>none
 |.sl id off len none=>
  if n=0 then some (s,J)
  else if J.lock<=id then
   match J.get id with
   |some (.cells c et true true)=>if et=e then(takeN c off (len*size)).map λold=>(.sl J.next 0 (len+n) none,(J.kill id).new (.cells (old++new) e true true))else none
   |_=>none
  else none
 |.ro l=>if n=0 then some (.ro l,J)else none
 |_=>none
def Xb(P:Program)(argTypes:Wm)(s x:AV)(J:aA):Wb:=
 match argTypes.toList with
 |[t,t1]=>
  match vW P t,EX P t1 with
  |some (e,size,bytes,_),true=>
   match yE J size x with
   |some (n,new)=>pz e size bytes s n new J
   |none=>none
  |_,_=>none
 |_=>none
def QS(P:Program)(J:aA)(t:TypeId)(x:AV):Q4:=
 match P.underlying t,x with
 |some .string,.s s=>some (.i .i64 s.length)
 |some (.slice _),.fV=>some (.i .i64 0)
 |some (.slice _),.sl _ _ n _=>some (.i .i64 n)
 |some (.slice _),.ro l=>some (.i .i64 l.length)
 |some (.map _ _),.oU=>some (.i .i64 0)
 |some (.map _ _),.mp id=>match J.get id with
  |some (.map es)=>some (.i .i64 es.length)
  |_=>none
 |some (.array n _),_=>some (.i .i64 n)
 |_,_=>none
def QU(P:Program)(t:TypeId)(len cap:AV)(J:aA):Wb:=
 match vW P t,vM len,vM cap with
 |some (e,size,bytes,z),some l,some c=>
  if 0<=l/\l<=c/\bytes*c<=2^48/\c<=2^60 then
   some (.sl J.next 0 l.toNat (some c.toNat),J.new (.cells (if size=0 then[]else jk c.toNat z) e true false))
  else none
 |_,_,_=>none
def QZ(size:Nat)(es:Q3)(l h:Nat):Q4:=
 if h=l then some (.ro [])else
 match es[0]? with
 |some a=>if a.cells.length=size then some (.ro ((es.take h).drop l))else none
 |none=>none
def zX(P:Program)(t:TypeId)(J:aA)(x:AV)(lo hi:Q4):Q4:=
 match P.underlying t,x with
 |some .string,.s s=>(xq s.length (λh=>Nat.ble h s.length) lo hi).map λ(l,h)=>.s ((s.take h).drop l)
 |some (.slice e),.sl id off len cap=>
  match sizeT P e,cap with
  |some size,some c=>
   (xq len (λh=>Nat.ble h c) lo hi).bind λ(l,h)=>
    if c=l then some (.sl id off (h-l) (some 0))else some (.sl id (off+l*size) (h-l) (some (c-l)))
  |some size,none=>
   match J.get id with
   |some (.cells _ et _ true)=>if et=e then
     (xq len (λh=>Nat.ble h len) lo hi).bind λ(l,h)=>
      if l<len then some (.sl id (off+l*size) (h-l) none)else if l=0 then some (.sl id off (h-l) none)else if h=l then some (.ro [])else none
    else none
   |_=>none
  |none,_=>none
 |some (.slice e),.fV=>match sizeT P e with
  |some _=>(xq 0 (λh=>Nat.ble h 0) lo hi).map λ_=>.fV
  |none=>none
 |some (.slice e),.ro es=>match sizeT P e with
  |some size=>(xq es.length (λh=>Nat.ble h es.length) lo hi).bind λ(l,h)=>QZ size es l h
  |none=>none
 |some (.array n e),.p id off=>match sizeT P e with
  |some size=>(xq n (λh=>Nat.ble h n) lo hi).map λ(l,h)=>
    if n=l then .sl id off (h-l) (some 0)else .sl id (off+l*size) (h-l) (some (n-l))
  |none=>none
 |_,_=>none
def QO(P:Program)(t:TypeId)(x:AV)(f:Nat):Q4:=
 match P.underlying t,x with
 |some (.struct fields),.p id off=>
  match fields[f]? with
  |some fd=>match sizeT P fd.type with
   |some n=>if n=0 then none else some (.p id (off+fd.offset))
   |none=>none
  |none=>none
 |some (.struct fields),.rp a off=>
  match fields[f]? with
  |some fd=>match sizeT P fd.type with
   |some n=>if n=0 then none else some (.rp a (off+fd.offset))
   |none=>none
  |none=>none
 |_,_=>none
def QN(P:Program)(t:TypeId)(x:AV)(f:Nat):Q4:=
 match P.underlying t,x with
 |some (.struct fields),.agg cs=>
  match fields[f]? with
  |some fd=>QY P fd.type cs fd.offset
  |none=>none
 |_,_=>none
def xZ(P:Program)(t:TypeId)(x ix:AV):Q4:=
 match P.underlying t,x,vM ix with
 |some (.slice e),.sl id off len _,some k=>
  match sizeT P e with
  |some size=>if 0<=k/\k<len then some (.p id (off+k.toNat*size))else none
  |none=>none
 |some (.array len e),.p id off,some k=>
  match sizeT P e with
  |some size=>if 0<=k/\k<len then some (.p id (off+k.toNat*size))else none
  |none=>none
 |some (.slice e),.ro l,some k=>
  match sizeT P e with
  |some size=>if 0<=k then match l[k.toNat]? with
   |some a=>if a.cells.length=size then some (.rp a 0)else none
   |none=>none
   else none
  |none=>none
 |some (.array len e),.rp a off,some k=>
  match sizeT P e with
  |some size=>if 0<=k/\k<len then some (.rp a (off+k.toNat*size))else none
  |none=>none
 |_,_,_=>none
def Eh(P:Program)(t:TypeId)(x ix:AV):Q4:=
 match P.underlying t,x,vM ix with
 |some .string,.s s,some k=>
  if 0<=k then match s[k.toNat]? with
   |some c=>some (.i .u8 c.toNat)
   |none=>none
  else none
 |some (.array len e),.agg cs,some k=>
  match sizeT P e with
  |some size=>if 0<=k/\k<len then QY P e cs (k.toNat*size)else none
  |none=>none
 |_,_,_=>none
def xY(P:Program)(src dst:TypeId)(x:AV)(J:aA):Wb:=
 match P.underlying src,P.underlying dst,x with
 |some _,some (.int k),.i _ n=>some (.i k (k.wrap n),J)
 |some .string,some .string,.s s=>some (.s s,J)
 |some .string,some (.slice e),.s s=>
  match P.underlying e with
  |some (.int .u8)=>if e≠0/\sizeT P e=some 1 then some (.sl J.next 0 s.length none,J.new (.cells (vT s) e true true))else none
  |_=>none
 |some (.slice e),some .string,.fV=>
  match P.underlying e with
  |some (.int .u8)=>some (.s [],J)
  |_=>none
 |some (.slice e),some .string,.sl id off len _=>
  match P.underlying e,J.get id with
  |some (.int .u8),some (.cells c _ _ _)=>match takeN c off len with
   |some r=>(bytesOf r).map λb=>(.s b,J)
   |none=>none
  |_,_=>none
 |some (.slice e),some .string,.ro l=>
  match P.underlying e with
  |some (.int .u8)=>(bytesOf l).map λb=>(.s b,J)
  |_=>none
 |some (.pointer t),some .unsafePointer,.p id off=>
  match J.get id,sizeT P t with
  |some (.cells c et _ false),some n=>if et≠0/\off<c.length/\n≠0 then some (.p id off,J)else none
  |_,_=>none
 |some .unsafePointer,some (.pointer u),.p id off=>
  match J.get id,sizeT P u with
  |some (.cells c et _ false),some _=>if et≠0/\liesAt P P.depth et (c.length/P.cellsOf et) off u 1=true then some (.p id off,J)else none
  |_,_=>none
 |_,_,_=>none
def Sj(op:BinOp)(a b c d:Int):Q4:=
 match op with
 |.lss=>if b<c then some (.b true)else if d<=a then some (.b false)else none
 |.leq=>if b<=c then some (.b true)else if d<a then some (.b false)else none
 |.gtr=>if d<a then some (.b true)else if b<=c then some (.b false)else none
 |.geq=>if d<=a then some (.b true)else if b<c then some (.b false)else none
 |.eql=>if b<c\/d<a then some (.b false)else none
 |.neq=>if b<c\/d<a then some (.b true)else none
 |_=>none
def sQ(P:Program)(op:BinOp)(t:TypeId)(x y:Operand)(a b:AV):Q4:=
 match op,a,b with
 |.eql,.p id off,.p id' off'=>match P.underlying t with
  |some (.pointer e)=>match sizeT P e with
   |some n=>if id=id'/\n≠0 then some (.b (off==off'))else none
   |none=>none
  |_=>none
 |.neq,.p id off,.p id' off'=>match P.underlying t with
  |some (.pointer e)=>match sizeT P e with
   |some n=>if id=id'/\n≠0 then some (.b (!(off==off')))else none
   |none=>none
  |_=>none
 |.eql,.p _ _,.jr|.eql,.jr,.p _ _=>match P.underlying t with
  |some (.pointer _)=>some (.b false)
  |_=>none
 |.neq,.p _ _,.jr|.neq,.jr,.p _ _=>match P.underlying t with
  |some (.pointer _)=>some (.b true)
  |_=>none
 |.eql,.ro (_::_),.fV|.eql,.fV,.ro (_::_)=>match P.underlying t with
  |some (.slice _)=>some (.b false)
  |_=>none
 |.neq,.ro (_::_),.fV|.neq,.fV,.ro (_::_)=>match P.underlying t with
  |some (.slice _)=>some (.b true)
  |_=>none
 |.eql,.rp _ _,.jr|.eql,.jr,.rp _ _=>match P.underlying t with
  |some (.pointer _)=>some (.b false)
  |_=>none
 |.neq,.rp _ _,.jr|.neq,.jr,.rp _ _=>match P.underlying t with
  |some (.pointer _)=>some (.b true)
  |_=>none
 |.eql,.sl ..,.fV|.eql,.fV,.sl ..=>match P.underlying t with
  |some (.slice _)=>some (.b false)
  |_=>none
 |.neq,.sl ..,.fV|.neq,.fV,.sl ..=>match P.underlying t with
  |some (.slice _)=>some (.b true)
  |_=>none
 |.eql,.iW _ _,.rW|.eql,.rW,.iW _ _=>match P.underlying t with
  |some (.interface _)=>some (.b false)
  |_=>none
 |.neq,.iW _ _,.rW|.neq,.rW,.iW _ _=>match P.underlying t with
  |some (.interface _)=>some (.b true)
  |_=>none
 |.eql,.mp _,.oU|.eql,.oU,.mp _=>match P.underlying t with
  |some (.map _ _)=>some (.b false)
  |_=>none
 |.neq,.mp _,.oU|.neq,.oU,.mp _=>match P.underlying t with
  |some (.map _ _)=>some (.b true)
  |_=>none
 |_,.z k lo hi,.i k' n=>if k=k' then Sj op lo hi n n else none
 |_,.i k n,.z k' lo hi=>if k=k' then Sj op n n lo hi else none
 |_,_,_=>
  match wJ a,wJ b with
  |some u,some v=>(pY P (do eqGuard op t x y u v;binOp op t u v)).bind (lT 4)
  |_,_=>none
def Zd:AV->AV->Option Bool
 |.i k a,.i k' b=>if k=k' then some (a==b)else none
 |.s a,.s b=>some (a==b)
 |.b a,.b b=>some (a==b)
 |.z k lo hi,.i k' b=>if k=k'/\(b<lo\/hi<b)then some false else none
 |_,_=>none
def Hl(k:AV):Xs->Nat->Option (Option (Nat×AV))
 |[],_=>some none
 |e::es,i=>match Zd k e.1 with
  |some true=>some (some (i,e.2))
  |some false=>Hl k es (i+1)
  |none=>none
def Tc(P:Program)(t:TypeId)(k:AV):Bool:=
 match P.underlying t,k with
 |some (.int _),.i _ _|some (.int _),.z _ _ _|some .string,.s _|some .bool,.b _=>true
 |_,_=>false
def QT(P:Program)(t:TypeId)(m k:AV)(ok:Bool)(J:aA):Q4:=
 match P.underlying t with
 |some (.map kt et)=>
  match(match m with|.oU=>some []|.mp id=>(match J.get id with|some (.map es)=>some es|_=>none)|_=>none)with
  |some es=>
   if Tc P kt k then
    match Hl k es 0 with
    |some (some (_,v))=>some (if ok then .dP [v,.b true]else v)
    |some none=>
     match P.info? et with
     |some i=>match i.zero with
      |some z=>(lT 4 z).map λz=>if ok then .dP [z,.b false]else z
      |none=>none
     |none=>none
    |none=>none
   else none
  |none=>none
 |_=>none
def QV(P:Program)(t:TypeId)(m k v:AV)(J:aA):Option aA:=
 match P.underlying t,m with
 |some (.map kt _),.mp id=>
  match J.get id with
  |some (.map es)=>
   if J.lock<=id/\Tc P kt k then
    match Hl k es 0 with
    |some (some (i,_))=>some (J.put id (.map (es.set i (k,v))))
    |some none=>some (J.put id (.map (es++[(k,v)])))
    |none=>none
   else none
  |_=>none
 |_,_=>none
def Ia(P:Program)(t:TypeId):WN:=
 match P.underlying t with
 |some (.interface _)=>some true
 |some _=>some false
 |none=>none
def Q5(P:Program)(x:AV)(t:TypeId)(ok:Bool):Q4:=
 match Ia P t,x with
 |some false,.iW u v=>
  if u=t then some (if ok then .dP [v,.b true]else v)
  else if ok then match P.info? t with
   |some i=>match i.zero with
    |some z=>(lT 4 z).map λz=>.dP [z,.b false]
    |none=>none
   |none=>none
  else none
 |some false,.rW=>
  if ok then match P.info? t with
   |some i=>match i.zero with
    |some z=>(lT 4 z).map λz=>.dP [z,.b false]
    |none=>none
   |none=>none
  else none
 |_,_=>none
def QX(it:AV)(J:aA):Wb:=
 match it with
 |.p id 0=>
  match J.get id with
  |some (.iter s pos)=>
   if J.lock<=id then
    if pos<s.length then
     let r:=Utf8.decode ⟨⟨s⟩⟩ pos
     some (.dP [.b true,.i .i64 pos,.i .i32 r.1],J.put id (.iter s (pos+r.2)))
    else some (.dP [.b false],J)
   else none
  |_=>none
 |_=>none
def Xd(P:Program)(argTypes:Wm)(d x:AV)(J:aA):Wb:=
 match argTypes[0]? with
 |some t=>
  match vW P t,d with
  |some (_,size,_,_),.sl id off dLen _=>
   match yE J size x,J.get id with
   |some (n,new),some (.cells c et true opn)=>
    let k:=Nat.min n dLen
    if size=0 then none else
    if J.lock<=id/\new.all AV.nH then
     (zG c off (new.take (k*size))).map λc'=>(.i .i64 k,J.put id (.cells c' et true opn))
    else none
   |_,_=>none
  |some (_,size,_,_),.fV=>match yE J size x with
   |some _=>some (.i .i64 0,J)
   |none=>none
  |_,_=>none
 |none=>none
def Xc(P:Program)(t:TypeId)(x:AV)(J:aA):Wb:=
 match P.underlying t,x with
 |some (.slice _),.fV=>some (.dP [],J)
 |some (.slice _),.ro []=>some (.dP [],J)
 |some (.slice e),.sl id off n _=>
  if n=0 then some (.dP [],J)else
  match yH P e,J.get id with
  |some z,some (.cells c et true opn)=>
   if J.lock<=id/\z.all AV.nH then
    (zG c off (jk n z)).map λc'=>(.dP [],J.put id (.cells c' et true opn))
   else none
  |_,_=>none
 |some (.map _ _),.oU=>some (.dP [],J)
 |some (.map _ _),.mp id=>match J.get id with
  |some (.map _)=>if J.lock<=id then some (.dP [],J.put id (.map []))else none
  |_=>none
 |_,_=>none
def X5(m m':Nat):Bool:=match gG.nodes[m]?,gG.nodes[m']? with
 |some (.ci k a),some (.ci k' b)=>Nat.beq (kc k) (kc k')&&!(H9 a b)
 |some (.cs a),some (.cs b)=>!(Ad a b)
 |_,_=>false
def Fp(n m:Nat):Wd->Bool
 |[]=>false
 |p::l=>(bif p.2 then(match gG.nodes[p.1]? with
  |some (.bin .eql n' m')=>Nat.beq n n'&&X5 m m'
  |_=>false)else false) ||Fp n m l
def EH:BinOp->Option BinOp
 |.eql=>some .neq
 |.neq=>some .eql
 |.lss=>some .geq
 |.geq=>some .lss
 |.leq=>some .gtr
 |.gtr=>some .leq
 |_=>none
def Kv(c n m:Nat):Wd->Option Bool
 |[]=>none
 |p::l=>match gG.nodes[p.1]? with
  |some (.bin op n' m')=>bif Nat.beq n n'&&Nat.beq m m'&&Nat.beq (uU op) c then some p.2 else Kv c n m l
  |_=>Kv c n m l
def PW(op:BinOp)(n m:Nat):WN:=match EH op with
 |some op'=>(Kv (uU op') n m gG.dec).map λb=>!b
 |none=>none
def aaX(x:Nd):WN:=match x with
 |.bin .eql n m=>bif Fp n m gG.dec then some false else PW .eql n m
 |.bin .neq n m=>bif Fp n m gG.dec then some true else PW .neq n m
 |.bin op n m=>PW op n m
 |_=>none
def jV(x:Nd):Q4:=
 match fF x with
 |some n=>match X8 n with
  |some b=>some (.b b)
  |none=>match aaX x with
   |some b=>some (.b b)
   |none=>some (.nd n)
 |none=>none
def iQ:AV->Option Nat
 |.nd n=>some n
 |.i k n=>fF (.ci k n)
 |.b x=>fF (.cb x)
 |.s x=>fF (.cs x)
 |.fV=>fF (.ml [])
 |_=>none
def nodesOf:Q3->Option Q2
 |[]=>some []
 |a::l=>match iQ a,nodesOf l with
  |some n,some r=>some (n::r)
  |_,_=>none
def Ej:AV->Option Nat
 |.agg l=>match nodesOf l with
  |some ns=>fF (.mk ns)
  |none=>none
 |_=>none
def uZ:Nat->Nat->Nat->Bool
 |0,m,n=>Nat.beq m n
 |f+1,m,n=>Nat.beq m n ||match gG.nodes[m]? with
  |some (.upd _ _ a _ _)=>uZ f a n
  |some (.same a _)=>uZ f a n
  |_=>false
def elemsOf(agg:Bool)(size:Nat):Nat->List AV->Option Q2
 |0,_=>some []
 |n+1,cs=>match(if agg then Ej (.agg (cs.take size))else(cs.head?).bind iQ),elemsOf agg size n (cs.drop size)with
  |some a,some r=>some (a::r)
  |_,_=>none
def listOf(P:Program)(J:aA)(e:TypeId):AV->Option Nat
 |.nd n=>some n
 |.fV=>fF (.ml [])
 |.sv id n=>match J.get id with
  |some (.vec m et _)=>if Nat.beq e et&&uZ 100 m n then some m else none
  |_=>none
 |.sl id off len _=>match J.get id,sizeT P e,nI P e with
  |some (.cells c et _ _),some size,some agg=>if Nat.beq e et&&((agg&&Nat.blt 0 size) ||Nat.beq size 1)then match takeN c off (len*size)with
   |some cs=>match elemsOf agg size len cs with
    |some ns=>fF (.ml ns)
    |none=>none
   |none=>none
   else none
  |_,_,_=>none
 |_=>none
def asw(a:AV):Bool:=
 match a with
 |.nd _|.rx _ _|.sv _ _|.pv _ _ _|.pd _ _=>true
 |_=>false
def aaA(P:Program)(t:TypeId):QR:=
 match P.underlying t with
 |some (.int _)=>some 0
 |some .string=>some 1
 |some .bool=>some 2
 |_=>none
def LW(P:Program):List Field->Nat->Option Q2
 |[],_=>some []
 |f::fs,k=>if !(f.name == "_")&&Nat.beq f.offset k then match aaA P f.type,LW P fs (k+1)with
  |some a,some r=>some (a::r)
  |_,_=>none
  else none
def VH(P:Program)(op:BinOp)(t:TypeId)(a b:AV):Q4:=
 match P.underlying t with
 |some (.int _)|some .string=>match iQ a,iQ b with
  |some x,some y=>jV (.bin op x y)
  |_,_=>none
 |some .bool=>match iQ a,iQ b with
  |some x,some y=>jV (.Et op x y)
  |_,_=>none
 |some (.struct fs)=>if !(P.stoodInHeld t)&&!(P.eqGuardType P.depth t)then match LW P fs.toList 0,Ej a,Ej b with
   |some ks,some x,some y=>jV (.Eu op ks x y)
   |_,_,_=>none
  else none
 |some (.pointer _)=>match op,a,b with
  |.eql,.rx _ _,.jr|.eql,.jr,.rx _ _=>some (.b false)
  |.neq,.rx _ _,.jr|.neq,.jr,.rx _ _=>some (.b true)
  |.eql,.pv _ _ _,.jr|.eql,.jr,.pv _ _ _=>some (.b false)
  |.neq,.pv _ _ _,.jr|.neq,.jr,.pv _ _ _=>some (.b true)
  |_,_,_=>none
 |_=>none
def MR(op:UnOp)(a:AV):Q4:=
 match a with
 |.nd n=>jV (.un op n)
 |_=>none
def VI(P:Program)(src dst:TypeId)(x:AV)(J:aA):Wb:=
 match P.underlying src,P.underlying dst,x with
 |some _,some (.int k),.nd n=>(jV (.conv k n)).map (·,J)
 |some .string,some .string,.nd n=>(jV (.FM n)).map (·,J)
 |some .string,some (.slice e),.nd n=>
  match P.underlying e with
  |some (.int .u8)=>if e≠0/\sizeT P e=some 1 then match fF (.bytes n)with
    |some m=>some (.sv J.next m,J.new (.vec m e false))
    |none=>none
   else none
  |_=>none
 |some (.slice e),some .string,x=>
  match P.underlying e with
  |some (.int .u8)=>match listOf P J e x with
    |some m=>(jV (.str m)).map (·,J)
    |none=>none
  |_=>none
 |_,_,_=>none
def abm(P:Program)(t:TypeId)(x:AV):Q4:=
 match P.underlying t,x with
 |some .string,.nd n=>jV (.slen n)
 |some (.slice _),.nd n=>jV (.len n)
 |some (.slice _),.sv _ n=>jV (.len n)
 |_,_=>none
def dB(a:Q4):Q4:=
 match a with
 |some (.nd n)=>match X8 n with
  |some b=>some (.b b)
  |none=>none
 |x=>x
def Ig(i:Nat):Nat->Nat->Option AV
 |0,_=>none
 |c+1,j=>match jV (.zq i j)with
  |some (.b true)=>some (.i .i64 j)
  |some (.b false)=>Ig i c (j+1)
  |some (.nd m)=>match dB (some (.nd m))with
   |some (.b true)=>some (.i .i64 j)
   |some (.b false)=>Ig i c (j+1)
   |_=>none
  |_=>none
def VK(P:Program)(t:TypeId)(x ix:AV):Q4:=
 match P.underlying t with
 |some .string=>match iQ x,iQ ix with
  |some n,some i=>jV (.FN n i)
  |_,_=>none
 |some (.array len _)=>match iQ ix with
  |some i=>match Ig i len 0 with
   |some k=>Eh P t x k
   |none=>none
  |none=>none
 |_=>none
def NW:Q4->Option Nat
 |none=>fF (.ci .i64 0)
 |some a=>iQ a
def Ro(x:Nd):Q4->Option Nat
 |none=>fF x
 |some a=>iQ a
def Qc(P:Program)(t:TypeId)(x:AV)(lo hi:Q4):Q4:=
 match P.underlying t with
 |some .string=>match iQ x with
  |some n=>match NW lo,Ro (.slen n) hi with
   |some l,some h=>jV (.FP n l h)
   |_,_=>none
  |none=>none
 |some (.slice e)=>match x,sizeT P e with
  |.nd n,some size=>match NW lo,Ro (.len n) hi with
   |some l,some h=>jV (.Dk size n l h)
   |_,_=>none
  |_,_=>none
 |_=>none
def VT(P:Program)(t:TypeId)(J:aA)(x:AV)(lo hi:Q4):Wb:=
 match P.underlying t,x with
 |some (.slice e),.sv id n=>match J.get id,sizeT P e with
  |some (.vec m et f),some size=>if Nat.beq e et&&uZ 100 m n&&Nat.ble J.lock id then
    match lo with
    |none=>match NW none,Ro (.len m) hi with
     |some z,some h=>(fF (.Dk size m z h)).map λk=>(.sv id k,J.put id (.vec k et f))
     |_,_=>none
    |some _=>(Qc P t (.nd m) lo hi).map (·,J.kill id)
   else none
  |_,_=>none
 |_,_=>none
def VJ(P:Program)(t:TypeId)(x:AV)(f:Nat):Q4:=
 match P.underlying t with
 |some (.struct fields)=>
  match fields[f]? with
  |some fd=>match sizeT P fd.type with
   |some n=>if n=0 then none else match x with
    |.rx m off=>some (.rx m (off+fd.offset))
    |.pv id m off=>some (.pv id m (off+fd.offset))
    |_=>none
   |none=>none
  |none=>none
 |_=>none
def VL(P:Program)(J:aA)(t:TypeId)(x ix:AV):Q4:=
 match P.underlying t with
 |some (.slice e)=>match sizeT P e,iQ ix with
  |some size,some i=>match x with
   |.nd n=>(fF (.at size n i)).map λm=>.rx m 0
   |.sv id n=>match J.get id with
    |some (.vec _ et _)=>if Nat.beq e et then(fF (.idx n i)).map λm=>.pv id m 0 else none
    |_=>none
   |.sl _ _ len _=>match Ig i len 0 with
    |some k=>xZ P t x k
    |none=>none
   |_=>none
  |_,_=>none
 |some (.array len _)=>match iQ ix with
  |some i=>match Ig i len 0 with
   |some k=>xZ P t x k
   |none=>none
  |none=>none
 |_=>none
def GX(m:Nat):Nat->Nat->Option Q3
 |_,0=>some []
 |off,n+1=>match jV (.cell off m),GX m (off+1) n with
  |some a,some r=>some (a::r)
  |_,_=>none
def Qb(P:Program)(t:TypeId)(m off:Nat):Q4:=
 match nI P t with
 |some true=>match sizeT P t with
  |some n=>(GX m off n).map .agg
  |none=>none
 |some false=>jV (.cell off m)
 |none=>none
def VN(P:Program)(t:TypeId)(J:aA)(a:AV):Q4:=
 match a with
 |.rx m off=>Qb P t m off
 |.pv id i off=>match J.get id with
  |some (.vec m et _)=>match sizeT P et with
   |some size=>match fF (.at size m i)with
    |some x=>Qb P t x off
    |none=>none
   |none=>none
  |_=>none
 |_=>none
def OZ(P:Program)(kt:TypeId)(k:AV):Option (Nat×Wc):=
 match P.underlying kt,iQ k with
 |some (.int kk),some n=>match fF (.ci kk 0)with
  |some z=>(fF (.bin .eql n z)).map λ_=>(n,some kk)
  |none=>none
 |some .string,some n=>match fF (.cs [])with
  |some z=>(fF (.bin .eql n z)).map λ_=>(n,none)
  |none=>none
 |_,_=>none
def Ze(n:Nat)(e:AV):WN:=
 match iQ e with
 |some m=>match(jV (.bin .eql n m))with
  |some (.b b)=>some b
  |some (.nd j)=>match dB (some (.nd j))with
   |some (.b b)=>some b
   |_=>none
  |_=>none
 |none=>none
def KH(n:Nat):Xs->Nat->Option (Option (Nat×AV))
 |[],_=>some none
 |e::es,i=>match Ze n e.1 with
  |some true=>some (some (i,e.2))
  |some false=>KH n es (i+1)
  |none=>none
def Qj(P:Program)(et:TypeId)(v:AV):Option (Nat×QR):=
 match nI P et with
 |some true=>match Ej v,sizeT P et with
  |some n,some k=>if Nat.beq v.cells.length k then some (n,some k)else none
  |_,_=>none
 |some false=>(iQ v).map (·,none)
 |none=>none
def Ld:Wc->Option IntKind->Bool
 |none,none=>true
 |some a,some b=>Nat.beq (kc a) (kc b)
 |_,_=>false
def Qd:QR->Option Nat->Bool
 |none,none=>true
 |some a,some b=>Nat.beq a b
 |_,_=>false
def Qp(P:Program)(et:TypeId):Q4:=
 match P.info? et with
 |some i=>match i.zero with
  |some z=>lT 4 z
  |none=>none
 |none=>none
def VO(P:Program)(t:TypeId)(m k:AV)(ok:Bool)(J:aA):Q4:=
 match P.underlying t,m with
 |some (.map kt et),.mp id=>
  match OZ P kt k,J.get id with
  |some (n,_),some (.map es)=>match KH n es 0 with
   |some (some (_,v))=>some (if ok then .dP [v,.b true]else v)
   |some none=>(Qp P et).map λz=>if ok then .dP [z,.b false]else z
   |none=>none
  |some (n,kk),some (.pmap es)=>
   if Ld kk none then match KH n (es.map λe=>(AV.s e.1,e.2)) 0 with
    |some (some (_,v))=>some (if ok then .dP [v,.b true]else v)
    |some none=>(Qp P et).map λz=>if ok then .dP [z,.b false]else z
    |none=>none
   else none
  |some (n,kk),some (.smap j Di sz)=>
   if Ld kk Di then match(Qp P et).bind (Qj P et)with
    |some (z,sz')=>if Qd sz sz' then match(fF (.Fe z j n)).bind λg=>Qb P et g 0 with
     |some v=>if ok then match jV (.Fg j n)with
       |some b=>some (.dP [v,b])
       |none=>none
      else some v
     |none=>none
     else none
    |none=>none
   else none
  |_,_=>none
 |_,_=>none
def VQ(P:Program)(t:TypeId)(m k v:AV)(J:aA):Option aA:=
 match P.underlying t,m with
 |some (.map kt et),.mp id=>
  if Nat.ble J.lock id then
   match OZ P kt k,Qj P et v,J.get id with
   |some (n,kk),some (u,sz),some (.map [])=>match fF (.ml [])with
    |some j=>(fF (.AY j n u)).map λj'=>J.put id (.smap j' kk sz)
    |none=>none
   |some (n,kk),some (u,sz),some (.smap j Di sz')=>if Ld kk Di&&Qd sz sz' then(fF (.AY j n u)).map λj'=>J.put id (.smap j' kk sz)else none
   |_,_,_=>none
  else none
 |_,_=>none
def mapArg(v:AV):Bool:=match v with
 |.nd n=>(match gG.nodes[n]? with
  |some (.len _)=>true
  |_=>false)
 |v=>(vM v).isSome
def VU(P:Program)(t:TypeId)(J:aA)(a v:AV):Option aA:=
 match a with
 |.pv id i off=>match J.get id with
  |some (.vec m et f)=>
   if J.lock<=id/\sizeT P t=some v.cells.length then
    match sizeT P et,nodesOf v.cells with
    |some size,some vs=>match fF (.upd size off m i vs)with
     |some m'=>some (J.put id (.vec m' et f))
     |none=>none
    |_,_=>none
   else none
  |_=>none
 |_=>none
def abk(P:Program)(argTypes:Wm)(s x:AV)(J:aA):Wb:=
 match argTypes.toList with
 |[t,t1]=>
  match vW P t with
  |some (e,size,bytes,_)=>
   if size=0 then none else
   match(match P.underlying t1 with
    |some .string=>if size=1 then match iQ x with
      |some n=>fF (.bytes n)
      |none=>none
     else none
    |some (.slice _)=>listOf P J e x
    |_=>none)with
   |none=>none
   |some b=>
    match s with
    |.fV=>match fF (.ml [])with
     |some a=>(fF (.app size bytes a b)).map λm=>(.sv J.next m,J.new (.vec m e true))
     |none=>none
    |.sv id n=>match J.get id with
     |some (.vec a et f)=>if Nat.beq et e&&uZ 100 a n&&Nat.ble J.lock id then(fF (.app size bytes a b)).map λm=>(.sv J.next m,(J.kill id).new (.vec m e f))else none
     |_=>none
    |.sl id 0 0 (some 0)=>match J.get id with
     |some (.cells [] et true false)=>if Nat.beq et e&&Nat.ble J.lock id then match fF (.ml [])with
      |some a=>(fF (.app size bytes a b)).map λm=>(.sv J.next m,(J.kill id).new (.vec m e false))
      |none=>none
      else none
     |_=>none
    |.sl id 0 len none=>match J.get id with
     |some (.cells c et true true)=>if Nat.beq et e&&Nat.ble J.lock id&&Nat.beq c.length (len*size)then match listOf P J e (.sl id 0 len none)with
      |some a=>(fF (.app size bytes a b)).map λm=>(.sv J.next m,(J.kill id).new (.vec m e false))
      |none=>none
      else none
     |_=>none
    |_=>none
  |none=>none
 |_=>none
def Uw(P:Program)(e:TypeId)(size len:Nat)(cs:Q3):QR:=
 if cs.any asw then
  match nI P e with
  |some agg=>if((agg&&Nat.blt 0 size) ||Nat.beq size 1)&&Nat.blt 0 len&&Nat.beq cs.length (len*size)then match elemsOf agg size len cs with
   |some ns=>fF (.ml ns)
   |none=>none
   else none
  |none=>none
 else none
def Ux(P:Program)(J:aA)(e:TypeId)(size len:Nat)(cs:Q3):Q4×aA:=
 match Uw P e size len cs with
 |some m=>(some (.sv J.next m),J.new (.vec m e false))
 |none=>(some (.sl J.next 0 len (some len)),J.new (.cells cs e true false))
def VP(P:Program)(t:TypeId)(len cap:AV)(J:aA):Wb:=
 match P.underlying t with
 |some (.slice e')=>match vW P t,nI P e' with
  |some (e,size,bytes,z),some agg=>
   if size=0 then none else
   match(if agg then Ej (.agg z)else(z.head?).bind iQ),iQ len,iQ cap with
   |some zn,some l,some c=>(fF (.rep size bytes zn l c)).map λm=>(.sv J.next m,J.new (.vec m e false))
   |_,_,_=>none
  |_,_=>none
 |_=>none
def Jh(P:Program)(b:Builtin)(argTypes:Wm)(args:Q3)(J:aA):W2:=
 match b,args with
 |.len,[x]=>match argTypes[0]? with
  |some t=>(abm P t x).map λv=>(some v,J)
  |none=>none
 |.append,[s,x]=>(abk P argTypes s x J).map λr=>(some r.1,r.2)
 |.min,[x,y]=>match iQ x,iQ y with
  |some m,some n=>(jV (.mm false m n)).map λv=>(some v,J)
  |_,_=>none
 |.max,[x,y]=>match iQ x,iQ y with
  |some m,some n=>(jV (.mm true m n)).map λv=>(some v,J)
  |_,_=>none
 |.unsafeSliceData,[.sv id n]=>match J.get id with
  |some (.vec m _ true)=>if uZ 100 m n then some (some (.pd id n),J)else none
  |_=>none
 |.unsafeString,[.pd id n,.nd k]=>
  match argTypes.toList with
  |[t,_]=>
   match P.underlying t,J.get id with
   |some (.pointer e),some (.vec m et _)=>
    if et=e/\e≠0/\P.cellsOf e=1/\J.lock<=id then
     match gG.nodes[k]? with
     |some (.len n')=>if uZ 100 m n&&uZ 100 m n' then(jV (.str m)).map λv=>(some v,J.kill id)else none
     |_=>none
    else none
   |_,_=>none
  |_=>none
 |_,_=>none
def QW(P:Program)(name:String)(J:aA):AV->Option (FuncId×AV)
 |.iW t v=>
  match P.info? t,P.underlying t with
  |some i,some d=>match i.methods.find? (·.name==name)with
   |some m=>match m.path.toList,m.func with
    |[],some (f,ptr)=>match d,ptr with
     |.pointer _,true=>some (f,v)
     |.pointer e,false=>match v with
      |.p id off=>(vN P e J (.p id off)).map λx=>(f,x)
      |_=>none
     |_,true=>none
     |_,false=>some (f,v)
    |_,_=>none
   |none=>none
  |_,_=>none
 |_=>none
abbrev Caller:=FuncId->List AV->aA->Option (AV×aA)
def dR(J:aA):Q4->Option (Q4×aA):=Option.map λv=>(some v,J)
def rZ:Wb->Option (Q4×aA):=Option.map λ(v,J)=>(some v,J)
def Mc:Option aA->Option (Q4×aA):=Option.map λJ=>(none,J)
def Gm(P:Program)(b:Builtin)(argTypes:Wm)(args:Q3)(J:aA):W2:=
 match b,args with
 |.len,[x]=>match argTypes[0]? with
  |some t=>dR J (QS P J t x)
  |none=>none
 |.append,[s,x]=>rZ (Xb P argTypes s x J)
 |.copy,[d,x]=>rZ (Xd P argTypes d x J)
 |.clear,[x]=>match argTypes[0]? with
  |some t=>rZ (Xc P t x J)
  |none=>none
 |.cap,[x]=>match argTypes[0]? with
  |some t=>match P.underlying t,x with
   |some (.slice _),.fV=>dR J (some (.i .i64 0))
   |some (.slice _),.sl _ _ _ (some c)=>dR J (some (.i .i64 c))
   |_,_=>none
  |none=>none
 |.unsafeSliceData,[.fV]=>dR J (some .jr)
 |.unsafeSliceData,[.sl id off n cap]=>if n=0/\(cap=none\/cap=some 0)then none else dR J (some (.p id off))
 |.unsafeString,[x,.i .i64 n]=>
  match argTypes.toList with
  |[t,_]=>
   if n=0 then(match x with
    |.jr=>dR J (some (.s []))
    |.p _ _=>dR J (some (.s []))
    |_=>none)
   else match x with
   |.p id off=>match P.underlying t,J.get id with
    |some (.pointer e),some (.cells c et true opn)=>
     if et=e/\e≠0/\P.cellsOf e=1/\0<n/\n<2^62/\J.lock<=id then
      match takeN c off n.toNat with
      |some r=>match bytesOf r with
       |some b=>some (some (.s b),J.put id (.cells c et false opn))
       |none=>none
      |none=>none
     else none
    |_,_=>none
   |_=>none
  |_=>none
 |.min,[x,y]=>match wJ x,wJ y with
  |some u,some v=>dR J ((pY P (Builtin.min_ #[] 0 #[u,v])).bind (lT 4))
  |_,_=>none
 |.max,[x,y]=>match wJ x,wJ y with
  |some u,some v=>dR J ((pY P (Builtin.max_ #[] 0 #[u,v])).bind (lT 4))
  |_,_=>none
 |.min,[x,y,z]=>match wJ x,wJ y,wJ z with
  |some u,some v,some t=>dR J ((pY P (Builtin.min_ #[] 0 #[u,v,t])).bind (lT 4))
  |_,_,_=>none
 |_,_=>none
def abl(b:Builtin)(args:Q3):Bool:=
 match b,args with
 |.append,.fV::_=>!(gG.nodes.isEmpty)
 |_,_=>false
def jX{α:Type}(a:Option α)(b:Unit->Option α):Option α:=
 match a with
 |some x=>some x
 |none=>b ()
theorem uX{α:Type}{a:Option α}{b:Unit->Option α}{x:α}(h:jX a b=some x):a=some x\/b ()=some x:=by
 unfold jX at h;split at h
 ·exact .inl h
 ·exact .inr h
def uI(P:Program)(call:Caller)(o:Oper)(ev:QP)(J:aA):W2:=
 match o.op with
 |.move x|.assign x=>dR J (ev x)
 |.pick c a b=>match dB (ev c)with
  |some (.b t)=>dR J (if t then ev a else ev b)
  |_=>none
 |.alloc t=>(yH P t).map λz=>(some (.p J.next 0),J.new (.cells z t true false))
 |.box t x=>(ev x).map λv=>(some (.p J.next 0),J.new (.cells v.cells t true false))
 |.build t parts=>match EN ev parts.toList with
  |some ps=>dR J (QM P t ps)
  |none=>none
 |.buildSlice t len parts=>
  match vW P t,EN ev parts.toList with
  |some (e,size,_,z),some ps=>
   if len*size>2^24 then none else
   match zU (λi=>some (i*size,size)) (if len*size=0 then[]else jk len z) ps with
   |some cs=>some (Ux P J e size len cs)
   |none=>none
  |_,_=>none
 |.load t a=>match ev a with
  |some a=>dR J (jX (vN P t J a) λ_=>VN P t J a)
  |none=>none
 |.store t a x=>match ev a,ev x with
  |some a,some v=>Mc (jX (Ei P t J a v) λ_=>VU P t J a v)
  |_,_=>none
 |.nilCheck x=>match ev x with
  |some (.p id off)=>dR J (some (.p id off))
  |some (.rp a off)=>dR J (some (.rp a off))
  |some (.rx m off)=>dR J (some (.rx m off))
  |some (.pv id m off)=>dR J (some (.pv id m off))
  |some (.fn f fs cs)=>dR J (some (.fn f fs cs))
  |_=>none
 |.binOp op t x y _=>match ev x,ev y with
  |some a,some b=>dR J (jX (sQ P op t x y a b) λ_=>VH P op t a b)
  |_,_=>none
 |.unOp op _ x=>match ev x with
  |some a=>match wJ a with
   |some u=>dR J ((pY P (Op.unary op u)).bind (lT 4))
   |none=>dR J (MR op a)
  |none=>none
 |.convert src dst x=>match ev x with
  |some a=>rZ (jX (xY P src dst a J) λ_=>VI P src dst a J)
  |none=>none
 |.makeInterface t x=>match ev x,Ia P t with
  |some a,some false=>dR J (some (.iW t a))
  |_,_=>none
 |.makeFunc (.func f) first caps=>match Au ev first.toList,Au ev caps.toList with
   |some fs,some cs=>dR J (some (.fn f fs cs))
   |_,_=>none
 |.makeMap t r=>match r with
  |none=>some (some (.mp J.next),J.new (.map []))
  |some h=>match ev h,P.underlying t with
   |some v,some (.map _ _)=>if mapArg v then some (some (.mp J.next),J.new (.map []))else none
   |_,_=>none
 |.makeSlice t l c=>match ev l,ev c with
  |some l,some c=>rZ (jX (QU P t l c J) λ_=>VP P t l c J)
  |_,_=>none
 |.slice t x lo hi none=>match ev x,IV ev lo,IV ev hi with
  |some v,some lo,some hi=>jX (dR J (jX (zX P t J v lo hi) λ_=>Qc P t v lo hi)) λ_=>rZ (VT P t J v lo hi)
  |_,_,_=>none
 |.fieldAddr t x f=>match ev x with
  |some a=>dR J (jX (QO P t a f) λ_=>VJ P t a f)
  |none=>none
 |.field t x f=>match ev x with
  |some a=>dR J (QN P t a f)
  |none=>none
 |.indexAddr t x ix=>match ev x,ev ix with
  |some a,some k=>dR J (jX (xZ P t a k) λ_=>VL P J t a k)
  |_,_=>none
 |.index t x ix=>match ev x,ev ix with
  |some a,some k=>dR J (jX (Eh P t a k) λ_=>VK P t a k)
  |_,_=>none
 |.lookup t m k ok=>match ev m,ev k with
  |some m,some k=>dR J (jX (QT P t m k ok J) λ_=>VO P t m k ok J)
  |_,_=>none
 |.mapUpdate t m k v|.insert t m k v=>match ev m,ev k,ev v with
  |some m,some k,some v=>Mc (jX (QV P t m k v J) λ_=>VQ P t m k v J)
  |_,_,_=>none
 |.range t x=>match P.underlying t,ev x with
  |some .string,some (.s s)=>some (some (.p J.next 0),J.new (.iter s 0))
  |some (.map _ _),some .oU=>some (some (.p J.next 0),J.new (.iterM none))
  |some (.map _ _),some (.mp id)=>match J.get id with
   |some (.map _)=>some (some (.p J.next 0),J.new (.iterM (some id)))
   |_=>none
  |_,_=>none
 |.next it true=>match ev it with
  |some a=>rZ (QX a J)
  |none=>none
 |.next it false=>match ev it with
  |some (.p id 0)=>match J.get id with
   |some (.iterM none)=>some (some (.dP [.b false]),J)
   |some (.iterM (some m))=>match J.get m with
    |some (.map [])=>some (some (.dP [.b false]),J)
    |_=>none
   |_=>none
  |_=>none
 |.typeAssert x _ t ok=>match ev x with
  |some a=>dR J (Q5 P a t ok)
  |none=>none
 |.extract x k=>match ev x with
  |some (.dP l)=>dR J l[k]?
  |_=>none
 |.call c=>match Au ev c.args.toList with
  |some args=>
   match c.callee with
   |.builtin b=>bif abl b args then jX (Jh P b c.argTypes args J) λ_=>Gm P b c.argTypes args J else jX (Gm P b c.argTypes args J) λ_=>Jh P b c.argTypes args J
   |.value f=>match ev f with
    |some (.fn f fi caps)=>rZ (call f (fi++args++caps) J)
    |_=>none
   |.invoke r name=>match(ev r).bind (QW P name J)with
    |some (f,x)=>rZ (call f (x::args) J)
    |none=>none
  |none=>none
 |_=>none
def Yk(op:BinOp)(k:IntKind)(a b:Int):Q4:=
 match op with
 |.add=>some (.i k (k.wrap (a+b)))
 |.sub=>some (.i k (k.wrap (a-b)))
 |.mul=>some (.i k (k.wrap (a*b)))
 |.eql=>some (.b (a==b))
 |.neq=>some (.b (a !=b))
 |.lss=>some (.b (decide (a<b)))
 |.leq=>some (.b (decide (a<=b)))
 |.gtr=>some (.b (decide (a>b)))
 |.geq=>some (.b (decide (a>=b)))
 |_=>none
def Yn(op:BinOp)(a b:Q0):Q4:=
 match op with
 |.add=>if a.length+b.length<=9223372036854775807 then some (.s (a++b))else none
 |.eql=>some (.b (a==b))
 |.neq=>some (.b (!(a==b)))
 |.lss=>some (.b (Op.bytesLess a b))
 |.leq=>some (.b (Op.bytesLess a b ||a==b))
 |.gtr=>some (.b (!(Op.bytesLess a b ||a==b)))
 |.geq=>some (.b (!(Op.bytesLess a b)))
 |_=>none
def Yj(P:Program)(op:BinOp)(t:TypeId)(x y:Operand)(a b:AV):Q4:=
 match a with
 |.i k m=>match b with
  |.i k' n=>if k=k' then match Yk op k m n with
    |some r=>some r
    |none=>sQ P op t x y a b
   else sQ P op t x y a b
  |_=>sQ P op t x y a b
 |.s u=>match b with
  |.s v=>match Yn op u v with
   |some r=>some r
   |none=>sQ P op t x y a b
  |_=>sQ P op t x y a b
 |_=>sQ P op t x y a b
theorem toList_mk(l:Q0):(⟨⟨l⟩⟩:ByteArray).toList=l:=by rw[ByteArray.toList_eq]
theorem apx{P:Program}{op:BinOp}{t:TypeId}{x y:Operand}{k:IntKind}{m n:Int}{r:AV}(h:Yk op k m n=some r):sQ P op t x y (.i k m) (.i k n)=some r:=by
 have key:∀v:Value,(do eqGuard op t x y (.int k m) (.int k n);binOp op t (.int k m) (.int k n):Sem Value)=.pure v->lT 4 v=some r->sQ P op t x y (.i k m) (.i k n)=some r:=by
  intro v hv hr;have:sQ P op t x y (.i k m) (.i k n)=(pY P (do eqGuard op t x y (.int k m) (.int k n);binOp op t (.int k m) (.int k n):Sem Value)).bind (lT 4):=by cases op<;>rfl
  rw[this,hv];exact hr
 cases op<;>simp only[Yk,reduceCtorEq,aW]at h<;>subst h
 all_goals refine key _ (by simp only[eqGuard,binOp,ne_eq,not_true_eq_false,if_false,Op.intArith,Op.intCmp];rfl) rfl
theorem acV(a b:Q0):((⟨⟨a⟩⟩:ByteArray)++⟨⟨b⟩⟩)=⟨⟨a++b⟩⟩:=by apply ByteArray.ext;rw[ByteArray.data_append];simp
theorem apZ{P:Program}{op:BinOp}{t:TypeId}{x y:Operand}{u v:Q0}{r:AV}(h:Yn op u v=some r):sQ P op t x y (.s u) (.s v)=some r:=by
 have key:∀z:Value,(do eqGuard op t x y (.string ⟨⟨u⟩⟩) (.string ⟨⟨v⟩⟩);binOp op t (.string ⟨⟨u⟩⟩) (.string ⟨⟨v⟩⟩):Sem Value)=.pure z->lT 4 z=some r->sQ P op t x y (.s u) (.s v)=some r:=by
  intro z hz hr;have:sQ P op t x y (.s u) (.s v)=(pY P (do eqGuard op t x y (.string ⟨⟨u⟩⟩) (.string ⟨⟨v⟩⟩);binOp op t (.string ⟨⟨u⟩⟩) (.string ⟨⟨v⟩⟩):Sem Value)).bind (lT 4):=by cases op<;>rfl
  rw[this,hz];exact hr
 cases op<;>simp only[Yn,reduceCtorEq,aW]at h
 case add=>
  split at h
  ·next hb=>
   cases h;have:¬(((⟨⟨u⟩⟩:ByteArray).size+(⟨⟨v⟩⟩:ByteArray).size:Nat):Int)>IntKind.i64.max:=by
    show ¬((u.length+v.length:Nat):Int)>9223372036854775807
    omega
   exact key (.string ⟨⟨u++v⟩⟩) (by simp only[eqGuard,binOp,Op.stringOp,ah this,acV];rfl) rfl
  ·cases h
 all_goals subst h
 all_goals refine key _ (by simp only[eqGuard,binOp,Op.stringOp,toList_mk];rfl) rfl
theorem apw(P:Program)(op:BinOp)(t:TypeId)(x y:Operand)(a b:AV):Yj P op t x y a b=sQ P op t x y a b:=by
 unfold Yj;split
 ·split
  ·split
   ·next hk=>
    subst hk;split
    ·next r hr=>exact(apx hr).symm
    ·rfl
   ·rfl
  ·rfl
 ·split
  ·split
   ·next r hr=>exact(apZ hr).symm
   ·rfl
  ·rfl
 ·rfl
def fUn(P:Program)(J:aA)(op:UnOp)(a:AV):W2:=
 match op with
 |.not=>match a with
  |.b x=>some (some (.b (!x)),J)
  |_=>match wJ a with
   |some u=>dR J ((pY P (Op.unary op u)).bind (lT 4))
   |none=>dR J (MR op a)
 |_=>match wJ a with
  |some u=>dR J ((pY P (Op.unary op u)).bind (lT 4))
  |none=>dR J (MR op a)
def aeL(_P:Program)(_call:Caller)(ev:QP)(J:aA)(x:Operand):W2:=
 dR J (ev x)
def apy(_P:Program)(_call:Caller)(ev:QP)(J:aA)(c:Operand)(a:Operand)(b:Operand):W2:=
 match dB (ev c)with
  |some (.b t)=>dR J (if t then ev a else ev b)
  |_=>none
def apJ(P:Program)(_call:Caller)(_ev:QP)(J:aA)(t:TypeId):W2:=
 (yH P t).map λz=>(some (.p J.next 0),J.new (.cells z t true false))
def apS(_P:Program)(_call:Caller)(ev:QP)(J:aA)(t:TypeId)(x:Operand):W2:=
 (ev x).map λv=>(some (.p J.next 0),J.new (.cells v.cells t true false))
def apT(P:Program)(_call:Caller)(ev:QP)(J:aA)(t:TypeId)(parts:Array (Nat×Operand)):W2:=
 match EN ev parts.toList with
  |some ps=>dR J (QM P t ps)
  |none=>none
def apU(P:Program)(_call:Caller)(ev:QP)(J:aA)(t:TypeId)(len:Nat)(parts:Array (Nat×Operand)):W2:=
     match vW P t,EN ev parts.toList with
    |some (e,size,_,z),some ps=>
     if len*size>2^24 then none else
     match zU (λi=>some (i*size,size)) (if len*size=0 then[]else jk len z) ps with
     |some cs=>some (Ux P J e size len cs)
     |none=>none
    |_,_=>none
def apV(P:Program)(_call:Caller)(ev:QP)(J:aA)(t:TypeId)(a:Operand):W2:=
 match ev a with
  |some a=>dR J (jX (vN P t J a) λ_=>VN P t J a)
  |none=>none
def apW(P:Program)(_call:Caller)(ev:QP)(J:aA)(t:TypeId)(a:Operand)(x:Operand):W2:=
 match ev a,ev x with
  |some a,some v=>Mc (jX (Ei P t J a v) λ_=>VU P t J a v)
  |_,_=>none
def apX(_P:Program)(_call:Caller)(ev:QP)(J:aA)(x:Operand):W2:=
 match ev x with
  |some (.p id off)=>dR J (some (.p id off))
  |some (.rp a off)=>dR J (some (.rp a off))
  |some (.rx m off)=>dR J (some (.rx m off))
  |some (.pv id m off)=>dR J (some (.pv id m off))
  |some (.fn f fs cs)=>dR J (some (.fn f fs cs))
  |_=>none
def Ym(P:Program)(_call:Caller)(ev:QP)(J:aA)(op:BinOp)(t:TypeId)(x:Operand)(y:Operand):W2:=
 match ev x,ev y with
  |some a,some b=>dR J (jX (Yj P op t x y a b) λ_=>VH P op t a b)
  |_,_=>none
def Yl(P:Program)(_call:Caller)(ev:QP)(J:aA)(op:UnOp)(x:Operand):W2:=
 match ev x with
  |some a=>fUn P J op a
  |none=>none
def apz(P:Program)(_call:Caller)(ev:QP)(J:aA)(src:TypeId)(dst:TypeId)(x:Operand):W2:=
 match ev x with
  |some a=>rZ (jX (xY P src dst a J) λ_=>VI P src dst a J)
  |none=>none
def apA(P:Program)(_call:Caller)(ev:QP)(J:aA)(t:TypeId)(x:Operand):W2:=
 match ev x,Ia P t with
  |some a,some false=>dR J (some (.iW t a))
  |_,_=>none
def apB(_P:Program)(_call:Caller)(ev:QP)(J:aA)(f:FuncId)(first:Array Operand)(caps:Array Operand):W2:=
 match Au ev first.toList,Au ev caps.toList with
  |some fs,some cs=>dR J (some (.fn f fs cs))
  |_,_=>none
def apC(P:Program)(_call:Caller)(ev:QP)(J:aA)(t:TypeId)(r:Option Operand):W2:=
 match r with
  |none=>some (some (.mp J.next),J.new (.map []))
  |some h=>match ev h,P.underlying t with
   |some v,some (.map _ _)=>if mapArg v then some (some (.mp J.next),J.new (.map []))else none
   |_,_=>none
def apD(P:Program)(_call:Caller)(ev:QP)(J:aA)(t:TypeId)(l:Operand)(c:Operand):W2:=
 match ev l,ev c with
  |some l,some c=>rZ (jX (QU P t l c J) λ_=>VP P t l c J)
  |_,_=>none
def apE(P:Program)(_call:Caller)(ev:QP)(J:aA)(t:TypeId)(x:Operand)(lo:Option Operand)(hi:Option Operand):W2:=
 match ev x,IV ev lo,IV ev hi with
  |some v,some lo,some hi=>jX (dR J (jX (zX P t J v lo hi) λ_=>Qc P t v lo hi)) λ_=>rZ (VT P t J v lo hi)
  |_,_,_=>none
def apF(P:Program)(_call:Caller)(ev:QP)(J:aA)(t:TypeId)(x:Operand)(f:Nat):W2:=
 match ev x with
  |some a=>dR J (jX (QO P t a f) λ_=>VJ P t a f)
  |none=>none
def apH(P:Program)(_call:Caller)(ev:QP)(J:aA)(t:TypeId)(x:Operand)(f:Nat):W2:=
 match ev x with
  |some a=>dR J (QN P t a f)
  |none=>none
def apI(P:Program)(_call:Caller)(ev:QP)(J:aA)(t:TypeId)(x:Operand)(ix:Operand):W2:=
 match ev x,ev ix with
  |some a,some k=>dR J (jX (xZ P t a k) λ_=>VL P J t a k)
  |_,_=>none
def apK(P:Program)(_call:Caller)(ev:QP)(J:aA)(t:TypeId)(x:Operand)(ix:Operand):W2:=
 match ev x,ev ix with
  |some a,some k=>dR J (jX (Eh P t a k) λ_=>VK P t a k)
  |_,_=>none
def apL(P:Program)(_call:Caller)(ev:QP)(J:aA)(t:TypeId)(m:Operand)(k:Operand)(ok:Bool):W2:=
 match ev m,ev k with
  |some m,some k=>dR J (jX (QT P t m k ok J) λ_=>VO P t m k ok J)
  |_,_=>none
def aeM(P:Program)(_call:Caller)(ev:QP)(J:aA)(t:TypeId)(m:Operand)(k:Operand)(v:Operand):W2:=
 match ev m,ev k,ev v with
  |some m,some k,some v=>Mc (jX (QV P t m k v J) λ_=>VQ P t m k v J)
  |_,_,_=>none
def apM(P:Program)(_call:Caller)(ev:QP)(J:aA)(t:TypeId)(x:Operand):W2:=
 match P.underlying t,ev x with
  |some .string,some (.s s)=>some (some (.p J.next 0),J.new (.iter s 0))
  |some (.map _ _),some .oU=>some (some (.p J.next 0),J.new (.iterM none))
  |some (.map _ _),some (.mp id)=>match J.get id with
   |some (.map _)=>some (some (.p J.next 0),J.new (.iterM (some id)))
   |_=>none
  |_,_=>none
def apN(_P:Program)(_call:Caller)(ev:QP)(J:aA)(it:Operand):W2:=
 match ev it with
  |some a=>rZ (QX a J)
  |none=>none
def apO(_P:Program)(_call:Caller)(ev:QP)(J:aA)(it:Operand):W2:=
 match ev it with
  |some (.p id 0)=>match J.get id with
   |some (.iterM none)=>some (some (.dP [.b false]),J)
   |some (.iterM (some m))=>match J.get m with
    |some (.map [])=>some (some (.dP [.b false]),J)
    |_=>none
   |_=>none
  |_=>none
def apP(P:Program)(_call:Caller)(ev:QP)(J:aA)(x:Operand)(t:TypeId)(ok:Bool):W2:=
 match ev x with
  |some a=>dR J (Q5 P a t ok)
  |none=>none
def apQ(_P:Program)(_call:Caller)(ev:QP)(J:aA)(x:Operand)(k:Nat):W2:=
 match ev x with
  |some (.dP l)=>dR J l[k]?
  |_=>none
def apR(P:Program)(call:Caller)(ev:QP)(J:aA)(c:Call):W2:=
 match Au ev c.args.toList with
  |some args=>
   match c.callee with
   |.builtin b=>bif abl b args then jX (Jh P b c.argTypes args J) λ_=>Gm P b c.argTypes args J else jX (Gm P b c.argTypes args J) λ_=>Jh P b c.argTypes args J
   |.value f=>match ev f with
    |some (.fn f fi caps)=>rZ (call f (fi++args++caps) J)
    |_=>none
   |.invoke r name=>match(ev r).bind (QW P name J)with
    |some (f,x)=>rZ (call f (x::args) J)
    |none=>none
  |none=>none
structure OpW where
 f:Program->Caller->(QP)->aA->Option (Q4×aA)
def opF(o:Op):OpW:=
 Op.casesOn (motive:=λ_=>OpW) o
  (λx=>⟨λP call ev J=>aeL P call ev J x⟩)
  (λx=>⟨λP call ev J=>aeL P call ev J x⟩)
  (λc a b=>⟨λP call ev J=>apy P call ev J c a b⟩)
  (λt=>⟨λP call ev J=>apJ P call ev J t⟩)
  (λt x=>⟨λP call ev J=>apS P call ev J t x⟩)
  (λt parts=>⟨λP call ev J=>apT P call ev J t parts⟩)
  (λt len parts=>⟨λP call ev J=>apU P call ev J t len parts⟩)
  (λt m k v=>⟨λP call ev J=>aeM P call ev J t m k v⟩)
  (λt a=>⟨λP call ev J=>apV P call ev J t a⟩)
  (λt a x=>⟨λP call ev J=>apW P call ev J t a x⟩)
  (λ_=>⟨λ_P _call _ev _J=>none⟩)
  (λ_=>⟨λ_P _call _ev _J=>none⟩)
  (λx=>⟨λP call ev J=>apX P call ev J x⟩)
  (λop t x y _=>⟨λP call ev J=>Ym P call ev J op t x y⟩)
  (λop _ x=>⟨λP call ev J=>Yl P call ev J op x⟩)
  (λsrc dst x=>⟨λP call ev J=>apz P call ev J src dst x⟩)
  (λ_ _=>⟨λ_P _call _ev _J=>none⟩)
  (λt x=>⟨λP call ev J=>apA P call ev J t x⟩)
  (λfn first caps=>⟨λP call ev J=>match fn with|.func f=>apB P call ev J f first caps|_=>none⟩)
  (λt r=>⟨λP call ev J=>apC P call ev J t r⟩)
  (λ_ _=>⟨λ_P _call _ev _J=>none⟩)
  (λt l c=>⟨λP call ev J=>apD P call ev J t l c⟩)
  (λt x lo hi mx=>⟨λP call ev J=>match mx with|none=>apE P call ev J t x lo hi|some _=>none⟩)
  (λt x f=>⟨λP call ev J=>apF P call ev J t x f⟩)
  (λt x f=>⟨λP call ev J=>apH P call ev J t x f⟩)
  (λt x ix=>⟨λP call ev J=>apI P call ev J t x ix⟩)
  (λt x ix=>⟨λP call ev J=>apK P call ev J t x ix⟩)
  (λt m k ok=>⟨λP call ev J=>apL P call ev J t m k ok⟩)
  (λt m k v=>⟨λP call ev J=>aeM P call ev J t m k v⟩)
  (λ_ _ _=>⟨λ_P _call _ev _J=>none⟩)
  (λ_ _ _ _=>⟨λ_P _call _ev _J=>none⟩)
  (λt x=>⟨λP call ev J=>apM P call ev J t x⟩)
  (λit b=>⟨λP call ev J=>bif b then apN P call ev J it else apO P call ev J it⟩)
  (λ_=>⟨λ_P _call _ev _J=>none⟩)
  (λx _ t ok=>⟨λP call ev J=>apP P call ev J x t ok⟩)
  (λx k=>⟨λP call ev J=>apQ P call ev J x k⟩)
  (λc=>⟨λP call ev J=>apR P call ev J c⟩)
  (λ_=>⟨λ_P _call _ev _J=>none⟩)
  (λ_=>⟨λ_P _call _ev _J=>none⟩)
  (λ_=>⟨λ_P _call _ev _J=>none⟩)
  (λ_ _=>⟨λ_P _call _ev _J=>none⟩)
  (λ_ _ _=>⟨λ_P _call _ev _J=>none⟩)
  (λ_ _=>⟨λ_P _call _ev _J=>none⟩)
def zh(P:Program)(call:Caller)(o:Oper)(ev:QP)(J:aA):W2:=(opF o.op).f P call ev J
theorem ap0(P:Program)(J:aA)(op:UnOp)(a:AV):fUn P J op a=match wJ a with
 |some u=>dR J ((pY P (Op.unary op u)).bind (lT 4))
 |none=>dR J (MR op a):=by
 cases op<;>first|rfl|skip
 cases a<;>rfl
theorem CP(P:Program)(call:Caller)(o:Oper)(ev:QP)(J:aA):zh P call o ev J=uI P call o ev J:=by
 obtain⟨dst,op,type,pos,after,guard⟩:=o;cases op with
 |binOp op t x y _=>
  show Ym P call ev J op t x y=_
  simp only[Ym,apw,uI]
 |unOp op _ x=>
  show Yl P call ev J op x=_
  simp only[Yl,ap0,uI]
 |slice t x lo hi mx=>cases mx<;>rfl
 |makeFunc fn _ _=>cases fn<;>rfl
 |next it b=>cases b<;>rfl
 |_=>rfl
def Jt(o:Oper)(ops:W3)(a:bg):WN:=
 match o.guard with
 |none=>some true
 |some (j,want)=>
  match ops[j]? with
  |some q=>match q.dst with
   |some d=>match dB (a.t.get d)with
    |some (.b x)=>some (x==want)
    |some (.dP _)=>some false
    |_=>none
   |none=>none
  |none=>none
def Xh(P:Program)(call:Caller)(ops:W3)(i:Nat)(a:bg)(J:aA):Option (bg×aA):=
 match ops[i]? with
 |none=>none
 |some o=>
  match Jt o ops a with
  |none=>none
  |some false=>(a.put o.dst (some (.dP []))).map (·,J)
  |some true=>
   match zh P call o a.eval J with
   |none=>none
   |some (v,J')=>(a.put o.dst v).map (·,J')
def JZ(P:Program)(call:Caller)(ops:W3):Q2->bg->aA->Option (bg×aA)
 |[],a,J=>some (a,J)
 |i::rest,a,J=>
  match Xh P call ops i a J with
  |some (a',J')=>JZ P call ops rest a' J'
  |none=>none
inductive dZ where
 |normal
 |exit (id:Nat)
 |ret
abbrev W8:=Option (dZ×bg×aA)
def zW(P:Program)(J:aA)(a:bg):List ResultVar->Option Q3
 |[]=>some []
 |.tmp t::rs=>match a.t.get t,zW P J a rs with
  |some v,some r=>some (v::r)
  |_,_=>none
 |.cell t ty::rs=>match(a.t.get t).bind (vN P ty J),zW P J a rs with
  |some v,some r=>some (v::r)
  |_,_=>none
def Jl:Q3->AV
 |[v]=>v
 |l=>.dP l
def yU:Q3->Nat->Tr AV->Tr AV
 |[],_,t=>t
 |v::vs,k,t=>yU vs (k+1) (t.set k (some v))
abbrev zK:=W3->bg->aA->Option (bg×aA)
abbrev xg:=FuncId->Option (Q3->aA->Option (AV×aA))
def GN(P:Program)(pr:xg)(run:Code->bg->aA->Option (dZ×bg×aA)):Caller:=λf args J=>
 match pr f with
 |some g=>g args J
 |none=>
  match P.funcs[f]? with
  |none=>none
  |some fn=>match fn.body with
   |none=>none
   |some c=>
    match run c {t:=yU args 0 .nil,n:=max args.length fn.ntmps,gn:=P.globals.size} J with
    |some (.normal,a',J')|some (.ret,a',J')=>(zW P J' a' fn.results.toList).map λl=>(Jl l,J')
    |_=>none
def tu(P:Program)(dr:Caller->zK)(pr:xg)(run:Code->bg->aA->Option (dZ×bg×aA))(c:Code)(a:bg)(J:aA):W8:=
 match c with
 |.skip=>some (.normal,a,J)
 |.region _ ops false=>(JZ P (GN P pr run) ops (List.range ops.size) a J).map λ(a,J)=>(.normal,a,J)
 |.region _ ops true=>(dr (GN P pr run) ops a J).map λ(a,J)=>(.normal,a,J)
 |.seq x y=>
  match run x a J with
  |some (.normal,a',J')=>run y a' J'
  |r=>r
 |.cond x y z=>
  match dB (a.eval x)with
  |some (.b t)=>run (if t then y else z) a J
  |_=>none
 |.block id b=>
  match run b a J with
  |some (.exit id',a',J')=>if id'=id then some (.normal,a',J')else some (.exit id',a',J')
  |r=>r
 |.loop b=>
  match run b a J with
  |some (.normal,a',J')=>run (.loop b) a' J'
  |r=>r
 |.exit id=>some (.exit id,a,J)
 |.ret=>some (.ret,a,J)
 |_=>none
structure yK where
 f:Program->(Caller->zK)->xg->(Code->bg->aA->Option (dZ×bg×aA))->bg->aA->Option (dZ×bg×aA)
def ak1:yK:=⟨λ_ _ _ _ a J=>some (.normal,a,J)⟩
def akY(ops:W3)(d:Bool):yK:=bif d then⟨λP dr pr run a J=>(dr (GN P pr run) ops a J).map λ(a,J)=>(.normal,a,J)⟩
 else⟨λP _ pr run a J=>(JZ P (GN P pr run) ops (List.range ops.size) a J).map λ(a,J)=>(.normal,a,J)⟩
def ak0(x y:Code):yK:=⟨λ_ _ _ run a J=>match run x a J with
    |some (.normal,a',J')=>run y a' J'
    |r=>r⟩
def akV(x:Operand)(y z:Code):yK:=⟨λ_ _ _ run a J=>match dB (a.eval x)with
    |some (.b t)=>run (if t then y else z) a J
    |_=>none⟩
def akU(id:Nat)(b:Code):yK:=⟨λ_ _ _ run a J=>match run b a J with
    |some (.exit id',a',J')=>if id'=id then some (.normal,a',J')else some (.exit id',a',J')
    |r=>r⟩
def akX(b:Code):yK:=⟨λ_ _ _ run a J=>match run b a J with
    |some (.normal,a',J')=>run (.loop b) a' J'
    |r=>r⟩
def akW(id:Nat):yK:=⟨λ_ _ _ _ a J=>some (.exit id,a,J)⟩
def akZ:yK:=⟨λ_ _ _ _ a J=>some (.ret,a,J)⟩
def Oa:yK:=⟨λ_ _ _ _ _ _=>none⟩
def codeF(c:Code):yK:=
 Code.casesOn (motive:=λ_=>yK) c
  ak1
  (λ_ ops d=>akY ops d)
  (λx y=>ak0 x y)
  (λx y z=>akV x y z)
  (λid b=>akU id b)
  (λb=>akX b)
  (λ_ _ _ _=>Oa)
  (λid=>akW id)
  (λ_=>Oa)
  (λ_=>Oa)
  (λ_=>Oa)
  akZ
  (λ_=>Oa)
theorem codeF_eq(P:Program)(dr:Caller->zK)(pr:xg)(run:Code->bg->aA->Option (dZ×bg×aA))(c:Code)(a:bg)(J:aA):(codeF c).f P dr pr run a J=tu P dr pr run c a J:=by
 cases c with
 |region id ops d=>cases d<;>rfl
 |_=>rfl
def Ef(P:Program)(dr:Caller->zK)(pr:xg)(n:Nat):Code->bg->aA->Option (dZ×bg×aA):=
 Nat.rec (motive:=λ_=>Code->bg->aA->Option (dZ×bg×aA)) (λ_ _ _=>none) (λ_ run c a J=>(codeF c).f P dr pr run a J) n
theorem acN(P:Program)(dr:Caller->zK)(pr:xg)(c:Code)(a:bg)(J:aA):Ef P dr pr 0 c a J=none:=rfl
theorem vK(P:Program)(dr:Caller->zK)(pr:xg)(n:Nat)(c:Code)(a:bg)(J:aA):Ef P dr pr (n+1) c a J=tu P dr pr (Ef P dr pr n) c a J:=codeF_eq P dr pr _ c a J
def acM(P:Program)(dr:Caller->zK)(pr:xg)(n:Nat):Caller:=GN P pr (Ef P dr pr n)
end
noncomputable section
variable[aH]
theorem JX{F:Env}:∀{l:Q3}{vs:Q6},aC F l vs↔l.length=vs.length/\∀(k:Nat) a x,l[k]? =some a->vs[k]? =some x->VR F a x
 |[],vs=>by
  simp only[aC];constructor
  ·rintro rfl;simp
  ·rintro⟨h,_⟩;cases vs with
   |nil=>rfl
   |cons _ _=>simp at h
 |a::l,vs=>by
  simp only[aC];constructor
  ·rintro⟨x,xs,rfl,h1,h2⟩
   have ih:=(JX (l:=l) (vs:=xs)).1 h2;refine⟨by simp[ih.1],?_⟩;intro k b y hk hy;cases k with
   |zero=>simp at hk hy;subst hk;subst hy;exact h1
   |succ k=>simp at hk hy;exact ih.2 k b y hk hy
  ·rintro⟨hl,h⟩
   cases vs with
   |nil=>simp at hl
   |cons x xs=>refine⟨x,xs,rfl,h 0 a x (by simp) (by simp),(JX (l:=l) (vs:=xs)).2 ⟨by simpa using hl,?_⟩⟩;intro k b y hk hy;exact h (k+1) b y (by simpa using hk) (by simpa using hy)
theorem aC.length{F:Env}{l:Q3}{vs:Q6}(h:aC F l vs):l.length=vs.length:=(JX.1 h).1
theorem aC.at{F:Env}{l:Q3}{vs:Q6}(h:aC F l vs){k:Nat}{a:AV}(hk:l[k]? =some a):∃x,vs[k]? =some x/\VR F a x:=by
 have h':=JX.1 h;obtain⟨hlt,rfl⟩:=eU.1 hk;have:k<vs.length:=by omega
 exact⟨vs[k],bK this,h'.2 k _ _ hk (bK this)⟩
theorem aC.of{F:Env}{l:Q3}{vs:Q6}(hl:l.length=vs.length)(h:∀(k:Nat) a,l[k]? =some a->∃x,vs[k]? =some x/\VR F a x):aC F l vs:=
 JX.2 ⟨hl,λk a x hk hx=>by obtain⟨y,hy,hv⟩:=h k a hk;rw[hx]at hy;cases hy;exact hv⟩
theorem aC.append{F:Env}{l l':Q3}{vs vs':Q6}(h:aC F l vs)(h':aC F l' vs'):aC F (l++l') (vs++vs'):=by
 induction l generalizing vs with
 |nil=>simp only[aC]at h;subst h;simpa using h'
 |cons a l ih=>simp only[aC]at h;obtain⟨x,xs,rfl,h1,h2⟩:=h;exact⟨x,xs++vs',rfl,h1,ih h2⟩
theorem aC.take{F:Env}{l:Q3}{vs:Q6}(h:aC F l vs)(n:Nat):aC F (l.take n) (vs.take n):=by
 induction n generalizing l vs with
 |zero=>simp[aC]
 |succ n ih=>cases l with
  |nil=>simp only[aC]at h;subst h;simp[aC]
  |cons a l=>simp only[aC]at h;obtain⟨x,xs,rfl,h1,h2⟩:=h;exact⟨x,xs.take n,by simp,h1,ih h2⟩
theorem aC.drop{F:Env}{l:Q3}{vs:Q6}(h:aC F l vs)(n:Nat):aC F (l.drop n) (vs.drop n):=by
 induction n generalizing l vs with
 |zero=>simpa using h
 |succ n ih=>cases l with
  |nil=>simp only[aC]at h;subst h;simp[aC]
  |cons a l=>simp only[aC]at h;obtain⟨x,xs,rfl,h1,h2⟩:=h;simpa using ih h2
theorem aC.cons{F:Env}{a:AV}{l:Q3}{x:Value}{vs:Q6}(h:VR F a x)(h':aC F l vs):aC F (a::l) (x::vs):=⟨x,vs,rfl,h,h'⟩
structure Env.le(F F':Env):Prop where
 pl:∀id q,F id=some q->F' id=some q
 ro:∀b o,F.ro b=some o->F'.ro b=some o
 gh:∀id,F.gh id=true->F'.gh id=true
theorem Env.le.refl(F:Env):F.le F:=⟨λ_ _ h=>h,λ_ _ h=>h,λ_ h=>h⟩
theorem Env.le.trans{a b c:Env}(h:a.le b)(h':b.le c):a.le c:=⟨λid q hq=>h'.pl id q (h.pl id q hq),λb o ho=>h'.ro b o (h.ro b o ho),λid hq=>h'.gh id (h.gh id hq)⟩
def Env.has(F:Env)(id:Nat):Prop:=(∃q,F id=some q)\/F.gh id=true
theorem Env.has.mono{F F':Env}{id:Nat}(h:F.has id)(hle:F.le F'):F'.has id:=h.elim (λ⟨q,hq⟩=>.inl ⟨q,hle.pl _ _ hq⟩) λhg=>.inr (hle.gh _ hg)
mutual
theorem GR.mono{ro ro':Qf}(h:∀b o,ro b=some o->ro' b=some o):∀(a:GV)(v:Value),GR ro a v->GR ro' a v
 |.b _,_,hv=>by simpa only[GR]using hv
 |.i _ _,_,hv=>by simpa only[GR]using hv
 |.s _,_,hv=>by simpa only[GR]using hv
 |.g l,_,hv=>by simp only[GR]at hv⊢;obtain⟨x,e,h1⟩:=hv;exact⟨x,e,aO.mono h l x h1⟩
 |.l xs,_,hv=>by
  simp only[GR]at hv⊢;rcases hv with hv|⟨bl,off,c,ys,sz,e,hc,h1,h2,h3⟩
  ·exact .inl hv
  exact .inr ⟨bl,off,c,ys,sz,e,hc,aO.mono h xs ys h1,h2,λhn=>by obtain⟨cs,elem,fr,h4,h5⟩:=h3 hn;exact⟨cs,elem,fr,h _ _ h4,h5⟩⟩
theorem aO.mono{ro ro':Qf}(h:∀b o,ro b=some o->ro' b=some o):∀(l:Q1)(vs:Q6),aO ro l vs->aO ro' l vs
 |[],_,hv=>by simpa only[aO]using hv
 |a::l,_,hv=>by simp only[aO]at hv⊢;obtain⟨x,xs,e,h1,h2⟩:=hv;exact⟨x,xs,e,GR.mono h a x h1,aO.mono h l xs h2⟩
end
mutual
theorem VR.mono{F F':Env}(h:F.le F'):∀(a:AV)(v:Value),VR F a v->VR F' a v
 |.b _,_,hv=>by simpa only[VR]using hv
 |.i _ _,_,hv=>by simpa only[VR]using hv
 |.s _,_,hv=>by simpa only[VR]using hv
 |.jr,_,hv=>by simpa only[VR]using hv
 |.p _ _,_,hv=>by simp only[VR]at hv⊢;obtain⟨q,hq,e⟩:=hv;exact⟨q,h.pl _ _ hq,e⟩
 |.fV,_,hv=>by simpa only[VR]using hv
 |.sl _ _ _ _,_,hv=>by simp only[VR]at hv⊢;obtain⟨q,hq,e⟩:=hv;exact⟨q,h.pl _ _ hq,e⟩
 |.oU,_,hv=>by simpa only[VR]using hv
 |.mp _,_,hv=>by simp only[VR]at hv⊢;obtain⟨q,hq,e⟩:=hv;exact⟨q,h.pl _ _ hq,e⟩
 |.yw,_,hv=>by simpa only[VR]using hv
 |.fn _ fi cs,_,hv=>by simp only[VR]at hv⊢;obtain⟨us,vs,e,h1,h2⟩:=hv;exact⟨us,vs,e,aC.mono h fi us h1,aC.mono h cs vs h2⟩
 |.rW,_,hv=>by simpa only[VR]using hv
 |.iW _ a,_,hv=>by simp only[VR]at hv⊢;obtain⟨x,e,h1⟩:=hv;exact⟨x,e,VR.mono h a x h1⟩
 |.agg l,_,hv=>by simp only[VR]at hv⊢;obtain⟨x,e,h1⟩:=hv;exact⟨x,e,aC.mono h l x h1⟩
 |.dP l,_,hv=>by simp only[VR]at hv⊢;obtain⟨x,e,h1⟩:=hv;exact⟨x,e,aC.mono h l x h1⟩
 |.z _ _ _,_,hv=>by simpa only[VR]using hv
 |.ro l,_,hv=>by
  simp only[VR]at hv⊢;rcases hv with hv|⟨bl,off,c,xs,sz,e,hc,h1,h2,h3⟩
  ·exact .inl hv
  refine .inr ?_;exact⟨bl,off,c,xs,sz,e,hc,aC.mono h l xs h1,h2,λhn=>by obtain⟨cs,elem,fr,h4,h5⟩:=h3 hn;exact⟨cs,elem,fr,h.ro _ _ h4,h5⟩⟩
 |.rp a _,_,hv=>by simp only[VR]at hv⊢;obtain⟨bl,base,cs,elem,fr,x,h1,h2,h3⟩:=hv;exact⟨bl,base,cs,elem,fr,x,h.ro _ _ h1,VR.mono h a x h2,h3⟩
 |.nd _,_,hv=>by simp only[VR]at hv⊢;obtain⟨g,h1,h2,h3⟩:=hv;exact⟨g,h1,h2,GR.mono h.ro _ _ h3⟩
 |.rx _ _,_,hv=>by simp only[VR]at hv⊢;obtain⟨g,bl,base,cs,elem,fr,x,h1,h2,h3,h4⟩:=hv;exact⟨g,bl,base,cs,elem,fr,x,h1,h.ro _ _ h2,GR.mono h.ro _ _ h3,h4⟩
 |.sv _ _,_,hv=>by
  simp only[VR]at hv⊢;obtain⟨xs,h1,⟨q,hq,h2⟩|⟨hg,h2⟩⟩:=hv
  ·exact⟨xs,h1,.inl ⟨q,h.pl _ _ hq,h2⟩⟩
  ·exact⟨xs,h1,.inr ⟨h.gh _ hg,h2⟩⟩
 |.pv _ _ _,_,hv=>by simp only[VR]at hv⊢;obtain⟨q,k,i,hq,h2⟩:=hv;exact⟨q,k,i,h.pl _ _ hq,h2⟩
 |.pd _ _,_,hv=>by simp only[VR]at hv⊢;obtain⟨xs,p,h1,h2,h3⟩:=hv;exact⟨xs,p,h1,h2,λhn=>by obtain⟨q,hq,h4⟩:=h3 hn;exact⟨q,h.pl _ _ hq,h4⟩⟩
theorem aC.mono{F F':Env}(h:F.le F'):∀(l:Q3)(vs:Q6),aC F l vs->aC F' l vs
 |[],_,hv=>by simpa only[aC]using hv
 |a::l,_,hv=>by simp only[aC]at hv⊢;obtain⟨x,xs,e,h1,h2⟩:=hv;exact⟨x,xs,e,VR.mono h a x h1,aC.mono h l xs h2⟩
end
theorem LD{α β:Type}{f:α->Option β}:∀{l:List α}{r:List β},tZ f l=some r->l.length=r.length/\∀(k:Nat) x,l[k]? =some x->∃y,r[k]? =some y/\f x=some y
 |[],r,h=>by simp[tZ]at h;subst h;simp
 |x::xs,r,h=>by
  simp only[tZ]at h;split at h
  ·cases h
  ·rename_i y hy
   split at h
   ·cases h
   ·rename_i ys hys
    cases h;have ih:=LD hys;refine⟨by simp[ih.1],λk z hz=>?_⟩;cases k with
    |zero=>simp at hz;subst hz;exact⟨y,by simp,hy⟩
    |succ k=>simp at hz;obtain⟨u,hu,hf⟩:=ih.2 k z hz;exact⟨u,by simpa using hu,hf⟩
theorem aje{F:Env}:∀(n:Nat)(a:AV)(v:Value),a.toVal n=some v->VR F a v:=by
 intro n;induction n with
 |zero=>intro a v h;simp[AV.toVal]at h
 |succ n ih=>
  intro a v h;have lst:∀(l:Q3)(vs:Q6),tZ (AV.toVal n) l=some vs->aC F l vs:=λl vs hl=>by have:=LD hl;exact aC.of this.1 λk a hk=>by obtain⟨y,hy,hf⟩:=this.2 k a hk;exact⟨y,hy,ih _ _ hf⟩
  cases a<;>simp only[AV.toVal,aZ,aW]at h<;>simp only[VR]<;>first|exact h.symm|(cases h;done)|skip
  case iW t a=>obtain⟨y,h1,h2⟩:=h;exact⟨_,h2.symm,ih _ _ h1⟩
  case agg l=>obtain⟨y,h1,h2⟩:=h;exact⟨_,h2.symm,lst _ _ h1⟩
  case dP l=>obtain⟨y,h1,h2⟩:=h;exact⟨_,h2.symm,lst _ _ h1⟩
theorem ajf{F:Env}:∀(n:Nat)(a:AV)(v x:Value),a.toVal n=some v->VR F a x->x=v:=by
 intro n;induction n with
 |zero=>intro a v x h;simp[AV.toVal]at h
 |succ n ih=>
  intro a v x h hx;have lst:∀(l:Q3)(vs us:Q6),tZ (AV.toVal n) l=some vs->aC F l us->us=vs:=λl vs us hl hu=>by
   have h1:=LD hl;have h2:=JX.1 hu;apply JG;intro k;by_cases hk:k<l.length
   ·obtain⟨y,hy,hf⟩:=h1.2 k _ (bK hk);obtain⟨z,hz,hv⟩:=hu.at (bK hk);rw[hy,hz,ih _ _ _ hf hv]
   ·rw[vG (by omega),vG (by omega)]
  cases a<;>simp only[AV.toVal,aZ,aW]at h<;>simp only[VR]at hx<;>first|exact hx.trans h|(cases h;done)|skip
  case iW t a=>obtain⟨y,h1,h2⟩:=h;obtain⟨z,rfl,hz⟩:=hx;rw[<-h2,ih _ _ _ h1 hz]
  case agg l=>obtain⟨y,h1,h2⟩:=h;obtain⟨z,rfl,hz⟩:=hx;rw[<-h2,lst _ _ _ h1 hz]
  case dP l=>obtain⟨y,h1,h2⟩:=h;obtain⟨z,rfl,hz⟩:=hx;rw[<-h2,lst _ _ _ h1 hz]
theorem Dq{F:Env}:∀(n:Nat)(v:Value)(a:AV),lT n v=some a->VR F a v:=by
 intro n;induction n with
 |zero=>intro v a h;simp[lT]at h
 |succ n ih=>
  intro v a h;have lst:∀(vs:Q6)(l:Q3),tZ (lT n) vs=some l->aC F l vs:=λvs l hl=>by
   have h1:=LD hl;refine aC.of h1.1.symm λk a hk=>?_;have hlt:k<vs.length:=by have:=(eU.1 hk).1;omega
   obtain⟨y,hy,hf⟩:=h1.2 k _ (bK hlt);rw[hk]at hy;cases hy;exact⟨_,bK hlt,ih _ _ hf⟩
  unfold lT at h;split at h;all_goals try (cases h;done)
  all_goals try (cases h;simp only[VR];done)
  ·simp only[aZ]at h;obtain⟨y,h1,rfl⟩:=h;simp only[VR];exact⟨_,rfl,ih _ _ h1⟩
  ·simp only[aZ]at h;obtain⟨y,h1,rfl⟩:=h;simp only[VR];exact⟨_,rfl,lst _ _ h1⟩
  ·simp only[aZ]at h;obtain⟨y,h1,rfl⟩:=h;simp only[VR];exact⟨_,rfl,lst _ _ h1⟩
theorem Bf{α:Type}{P:Program}{s:Sem α}{a:α}(h:pY P s=some a)(w:World):s.run P w=.ok a w:=by
 induction s with
 |pure x=>simp[pY]at h;subst h;rfl
 |program k ih=>exact ih P h
 |mark m k ih=>exact ih h
 |_=>simp[pY]at h
omit [aH] in
theorem Tr.afb{α:Type}:∀p:List Bool,(Tr.nil:Tr α).tN p=none
 |[]=>rfl
 |b::p=>by
  show Tr.tN p (bif b then Tr.nil else Tr.nil)=none
  cases b<;>exact Tr.afb p
omit [aH] in
@[simp] theorem Tr.get_nil{α:Type}(m:Nat):(Tr.nil:Tr α).get m=none:=Tr.afb _
omit [aH] in
theorem Tr.Yz{α:Type}(x:Option α):∀(p q:List Bool)(t:Tr α),(t.Je x p).tN q=if q=p then x else t.tN q
 |[],[],t=>rfl
 |[],c::q,t=>by rw[ah (by simp)];rfl
 |b::p,[],t=>by rw[ah (by simp)];cases b<;>rfl
 |b::p,c::q,t=>by
  have h1:(t.Je x (b::p))=bif b then .nd t.val (t.Dj.Je x p) t.Dx else .nd t.val t.Dj (t.Dx.Je x p):=rfl
  have h2:∀u:Tr α,u.tN (c::q)=(bif c then u.Dj else u.Dx).tN q:=λ_=>rfl;rw[h1,h2,h2];cases b<;>cases c
  ·show(t.Dx.Je x p).tN q=_
   rw[Tr.Yz x p q];simp
  ·show t.Dj.tN q=_
   simp
  ·show t.Dx.tN q=_
   simp
  ·show(t.Dj.Je x p).tN q=_
   rw[Tr.Yz x p q];simp
def V9:List Bool->Nat
 |[]=>0
 |b::p=>2*V9 p+(if b then 1 else 2)
omit [aH] in
theorem ajp:∀(f n:Nat),n<2^f->V9 (Pz f n)=n
 |0,n,h=>by
  have:n=0:=by simpa using h
  subst this;rfl
 |f+1,n,h=>by
  have h1:Pz (f+1) n=bif Nat.beq n 0 then[]else Nat.beq ((n-1)%2) 0::Pz f ((n-1)/2):=rfl
  rw[h1];by_cases h0:n=0
  ·subst h0;rfl
  ·have hb:Nat.beq n 0=false:=by cases n with|zero=>exact absurd rfl h0|succ n=>rfl
   rw[hb];show 2*V9 (Pz f ((n-1)/2))+_=n
   have hp:2^(f+1)=2*2^f:=by rw[JR,Gg]
   rw[ajp f _ (by omega)];rcases acy (n-1)with h2|h2
   ·rw[h2];show 2*((n-1)/2)+1=n;omega
   ·rw[h2];show 2*((n-1)/2)+2=n;omega
omit [aH] in
theorem ajo(n:Nat):V9 (path n)=n:=ajp _ _ Nat.lt_log2_self
omit [aH] in
theorem ava{n m:Nat}:path n=path m↔n=m:=⟨λh=>by rw[<-ajo n,h,ajo],λh=>by rw[h]⟩
omit [aH] in
theorem Tr.vY{α:Type}(t:Tr α)(n m:Nat)(x:Option α):(t.set n x).get m=if m=n then x else t.get m:=by
 unfold Tr.get Tr.set;rw[Tr.Yz];by_cases h:m=n
 ·subst h;simp
 ·rw[ah h,ah (λe=>h (ava.1 e))]
omit [aH] in
theorem aA.get_put(J:aA)(id id':Nat)(o:bn):(J.put id o).get id'=if id'=id then some o else J.get id':=Tr.vY _ _ _ _
omit [aH] in
theorem aA.yh(J:aA)(id id':Nat):(J.kill id).get id'=if id'=id then none else J.get id':=Tr.vY _ _ _ _
omit [aH] in
theorem aA.oK(J:aA)(id':Nat)(o:bn):(J.new o).get id'=if id'=J.next then some o else J.get id':=Tr.vY _ _ _ _
def bn.own:bn->Bool
 |.cells _ _ rw _=>rw
 |_=>true
structure qY(P:Program)(F:Env)(q:Place)(c:Q3)(et:TypeId)(rw opn:Bool)(cs:QQ)(elem:TypeId)(fr:Nat×Nat):Prop where
 fits:q.ba+q.sz<=cs.size
 le:c.length<=q.sz
 shut:opn=false->c.length=q.sz
 cell:∀(k:Nat) a,c[k]? =some a->∃x,cs[q.ba+k]? =some x/\VR F a x
 free:rw=true->∀k,k<q.sz->¬(fr.1<=q.ba+k/\q.ba+k<fr.2)
 whole:et≠0->elem=et/\q.ba+q.sz=cs.size/\(opn=false->q.ba=0)
 room:opn=true->et≠0/\0<q.es/\sizeT P et=some q.es
def zx(kk:Wc)(a:GV):Prop:=match kk with
 |some k=>∃n,a=.i k n
 |none=>∃s,a=.s s
def MZ(sz:QR)(b:GV):Prop:=match sz with
 |none=>b.scalar=true
 |some n=>∃cs,b=.g cs/\cs.length=n/\cs.all GV.scalar=true
def rD(ro:Qf)(kk:Wc)(sz:QR):Q1->List MapEntry->Prop
 |[],ms=>ms=[]
 |x::xs,ms=>∃a b m rest,x=.g [a,b]/\ms=m::rest/\zx kk a/\MZ sz b/\GR ro a m.key/\GR ro b m.val/\rD ro kk sz xs rest
theorem rD.mono{ro ro':Qf}(h:∀b o,ro b=some o->ro' b=some o){kk:Wc}{sz:QR}:∀{xs:Q1}{ms:List MapEntry},rD ro kk sz xs ms->rD ro' kk sz xs ms
 |[],ms,r=>r
 |x::xs,ms,r=>by obtain⟨a,b,m,rest,e1,e2,h1,h2,h3,h4,h5⟩:=r;exact⟨a,b,m,rest,e1,e2,h1,h2,GR.mono h _ _ h3,GR.mono h _ _ h4,rD.mono h h5⟩
def OR(P:Program)(F:Env)(q:Place)(w:World):bn->Prop
 |.cells c et rw opn=>∃cs elem fr,w.heap[q.bl]? =some (.cells cs elem fr)/\qY P F q c et rw opn cs elem fr
 |.iter s pos=>w.heap[q.bl]? =some (.stringIter ⟨⟨s⟩⟩ pos)/\q.ba=0
 |.map es=>∃ms clock,w.heap[q.bl]? =some (.map ms clock)/\ms.size=es.length/\∀(k:Nat) e,es[k]? =some e->∃m,ms[k]? =some m/\VR F e.1 m.key/\VR F e.2 m.val
 |.vec n et f=>∃xs cs elem fr ys,aH.val n=some (.l xs)/\w.heap[q.bl]? =some (.cells cs elem fr)/\aO F.ro xs ys/\(∀y∈ys,y.cells.size=q.es)/\EC cs q.ba (bY ys)/\xs.length*q.es<=q.sz/\qY P F q [] et true true cs elem fr/\(∀x∈xs,x.cells.all GV.scalar=true)/\(f=true->q.es<=q.sz)
 |.smap n kk sz=>∃xs ms clock,aH.val n=some (.l xs)/\w.heap[q.bl]? =some (.map ms clock)/\rD F.ro kk sz xs ms.toList
 |.pmap es=>(es.map (·.1)).Nodup/\∃ms clock ms',w.heap[q.bl]? =some (.map ms clock)/\ms.toList.Perm ms'/\ms'.length=es.length/\∀(k:Nat) e,es[k]? =some e->∃m,ms'[k]? =some m/\m.key=.string ⟨⟨e.1⟩⟩/\VR F e.2 m.val
 |.iterM none=>q.ba=0/\∃since last,w.heap[q.bl]? =some (.mapIter none since #[] last)
 |.iterM (some m)=>q.ba=0/\∃since last q',F m=some q'/\w.heap[q.bl]? =some (.mapIter (some q'.bl) since #[] last)
theorem qY.mono{P:Program}{F F':Env}(h:F.le F'){q:Place}{c:Q3}{et:TypeId}{rw opn:Bool}{cs:QQ}{elem:TypeId}{fr:Nat×Nat}
 (r:qY P F q c et rw opn cs elem fr):qY P F' q c et rw opn cs elem fr:=
 {r with cell:=λk a hk=>by obtain⟨x,hx,hv⟩:=r.cell k a hk;exact⟨x,hx,VR.mono h _ _ hv⟩}
theorem OR.mono{P:Program}{F F':Env}(h:F.le F'){q:Place}{w:World}{o:bn}(r:OR P F q w o):OR P F' q w o:=by
 cases o with
 |cells c et rw opn=>obtain⟨cs,elem,fr,h1,h2⟩:=r;exact⟨cs,elem,fr,h1,h2.mono h⟩
 |iter s pos=>exact r
 |map es=>obtain⟨ms,clock,h1,h2,h3⟩:=r;refine⟨ms,clock,h1,h2,λk e hk=>?_⟩;obtain⟨m,hm,ha,hb⟩:=h3 k e hk;exact⟨m,hm,VR.mono h _ _ ha,VR.mono h _ _ hb⟩
 |iterM m=>
  cases m with
  |none=>exact r
  |some m=>obtain⟨h0,since,last,q',h1,h2⟩:=r;exact⟨h0,since,last,q',h.pl _ _ h1,h2⟩
 |smap n kk sz=>obtain⟨xs,ms,clock,h1,h2,h3⟩:=r;exact⟨xs,ms,clock,h1,h2,h3.mono h.ro⟩
 |pmap es=>obtain⟨hn,ms,clock,ms',h1,hp,h2,h3⟩:=r;refine⟨hn,ms,clock,ms',h1,hp,h2,λk e hk=>?_⟩;obtain⟨m,hm,ha,hb⟩:=h3 k e hk;exact⟨m,hm,ha,VR.mono h _ _ hb⟩
 |vec n et f=>obtain⟨xs,cs,elem,fr,ys,h1,h2,h3,h4,h5,h6,h7,h8⟩:=r;exact⟨xs,cs,elem,fr,ys,h1,h2,aO.mono h.ro _ _ h3,h4,h5,h6,h7.mono h,h8⟩
theorem OR.heap{P:Program}{F:Env}{q:Place}{w w':World}{o:bn}(h:w'.heap[q.bl]? =w.heap[q.bl]?)(r:OR P F q w o):OR P F q w' o:=by
 cases o with
 |iterM m=>cases m<;>simp only[OR]at r⊢<;>rw[h]<;>exact r
 |_=>simp only[OR]at r⊢;rw[h];exact r
def QK(a:AV)(x:Value):Prop:=a.toVal 4=some x\/∃k lo hi m,a=.z k lo hi/\x=.int k m/\lo<=m/\m<=hi
def W9(c:Q3)(cs:QQ):Prop:=(∀(k:Nat) a,c[k]? =some a->∃x,cs[k]? =some x/\QK a x)/\(c≠[]->cs.size=c.length)/\(c=[]->∃t q,cs[0]? =some (.iface t q))
theorem QK.vr{F:Env}{a:AV}{x:Value}(h:QK a x):VR F a x:=by
 rcases h with h|⟨k,lo,hi,m,rfl,rfl,h1,h2⟩
 ·exact aje 4 a x h
 ·simp only[VR];exact⟨m,h1,h2,rfl⟩
def Ee(F:Env)(g:Nat)(c:Q3):Prop:=∃cs elem fr,F.ro g=some (.cells cs elem fr)/\c.length<=cs.size/\W9 c cs
theorem Ee.mono{F F':Env}{g:Nat}{c:Q3}(h:Ee F g c)(hle:F.le F'):Ee F' g c:=by obtain⟨cs,elem,fr,h1,h2⟩:=h;exact⟨cs,elem,fr,hle.ro _ _ h1,h2⟩
def Live(P:Program)(F:Env)(w:World)(id:Nat)(o:bn):Prop:=(∃q,F id=some q/\OR P F q w o)\/(F.gh id=true/\∃n et f,o=.vec n et f/\aH.val n=some (.l []))
theorem Live.mono{P:Program}{F F':Env}(h:F.le F'){w:World}{id:Nat}{o:bn}(r:Live P F w id o):Live P F' w id o:=by
 rcases r with⟨q,hq,hr⟩|⟨hg,h2⟩
 ·exact .inl ⟨q,h.pl _ _ hq,hr.mono h⟩
 ·exact .inr ⟨h.gh _ hg,h2⟩
theorem Live.heap{P:Program}{F:Env}{w w':World}{id:Nat}{o:bn}(r:Live P F w id o)(h:∀q,F id=some q->OR P F q w o->w'.heap[q.bl]? =w.heap[q.bl]?):Live P F w' id o:=by
 rcases r with⟨q,hq,hr⟩|h2
 ·exact .inl ⟨q,hq,OR.heap (h q hq hr) hr⟩
 ·exact .inr h2
structure SR(P:Program)(F:Env)(J:aA)(w:World):Prop where
 mg:∀g,g<=P.globals.size->∃sz es,F g=some ⟨g,0,sz,es⟩
 dom:∀id q,F id=some q->id<J.next
 live:∀id o,J.get id=some o->Live P F w id o
 jH:∀id,F.gh id=true->F id=none/\id<J.next
 sep:∀id o id' o' q q',J.get id=some o->o.own=true->J.get id'=some o'->id≠id'->F id=some q->F id'=some q'->q.bl≠q'.bl
 iT:∀b o,F.ro b=some o->w.heap[b]? =some o
 kN:∀id o q,J.get id=some o->o.own=true->F id=some q->F.ro q.bl=none
 tabs:∀p∈aH.tabs,Ee F p.1 p.2
def bn.asx:bn->Bool
 |.vec _ _ _=>true
 |_=>false
theorem SR.obj{P:Program}{F:Env}{J:aA}{w:World}(h:SR P F J w):∀id o,J.get id=some o->o.asx=false->∃q,F id=some q/\OR P F q w o:=by
 intro id o ho hv;rcases h.live id o ho with h1|⟨_,n,et,f,rfl,_⟩
 ·exact h1
 ·cases hv
theorem SR.at{P:Program}{F:Env}{J:aA}{w:World}(h:SR P F J w){id:Nat}{o:bn}{q:Place}(ho:J.get id=some o)(hq:F id=some q):OR P F q w o:=by
 rcases h.live id o ho with⟨q',hq',hr⟩|⟨hg,_⟩
 ·rw[hq]at hq';cases hq';exact hr
 ·rw[(h.jH id hg).1]at hq;cases hq
structure St(P:Program)(F:Env)(J:aA)(w:World)(F':Env)(J':aA)(w':World):Prop where
 ext:F.le F'
 rel:SR P F' J' w'
 size:w.heap.size<=w'.heap.size
 keep:∀bl,bl<w.heap.size->(∀id o q,J.get id=some o->o.own=true->J.lock<=id->F id=some q->q.bl≠bl)->w'.heap[bl]? =w.heap[bl]?
 own:∀id o q,J'.get id=some o->o.own=true->J.lock<=id->F' id=some q->w.heap.size<=q.bl\/∃dJ o0 q0,J.get dJ=some o0/\o0.own=true/\J.lock<=dJ/\F dJ=some q0/\q0.bl=q.bl
 os:w'.os=w.os
 tape:w'.tape=w.tape
 output:w'.output=w.output
 lock:J'.lock=J.lock
 next:J.next<=J'.next
 new:∀id,F'.has id->F.has id\/(J.next<=id/\id<J'.next)
 qg:∀b,F'.ro b≠none->F.ro b≠none\/w.heap.size<=b\/∃dJ o0 q0,J.get dJ=some o0/\o0.own=true/\J.lock<=dJ/\F dJ=some q0/\q0.bl=b
theorem St.refl{P:Program}{F:Env}{J:aA}{w:World}(h:SR P F J w):St P F J w F J w:=
 ⟨Env.le.refl _,h,bV _,λ_ _ _=>rfl,λid o q h1 h2 h3 h4=>.inr ⟨id,o,q,h1,h2,h3,h4,rfl⟩,rfl,rfl,rfl,rfl,bV _,λ_ h=>.inl h,λ_ h=>.inl h⟩
theorem St.trans{P:Program}{F F1 F2:Env}{J J1 J2:aA}{w w1 w2:World}(h:St P F J w F1 J1 w1)(k:St P F1 J1 w1 F2 J2 w2):St P F J w F2 J2 w2:=by
 refine⟨h.ext.trans k.ext,k.rel,jD h.size k.size,?_,?_,k.os.trans h.os,k.tape.trans h.tape,k.output.trans h.output,k.lock.trans h.lock,jD h.next k.next,?_,?_⟩;rotate_right
 ·intro b hb;rcases k.qg b hb with h1|h1|⟨dJ,o0,q0,a1,b1,c1,d1,e1⟩
  ·exact h.qg b h1
  ·exact .inr (.inl (jD h.size h1))
  ·rcases h.own dJ o0 q0 a1 b1 (h.lock▸c1) d1 with h2|⟨id2,o2,q2,a2,b2,c2,d2,e2⟩
   ·right;left;omega
   ·exact .inr (.inr ⟨id2,o2,q2,a2,b2,c2,d2,e2.trans e1⟩)
 rotate_right
 ·intro id hq;rcases k.new id hq with h1|⟨h1,h2⟩
  ·rcases h.new id h1 with h3|⟨h3,h4⟩
   ·exact .inl h3
   ·exact .inr ⟨h3,wZ h4 k.next⟩
  ·exact .inr ⟨Nat.le_trans h.next h1,h2⟩
 ·intro bl hbl hno;rw[k.keep bl (wZ hbl h.size) ?_,h.keep bl hbl hno];intro id o q h1 h2 h3 h4;rcases h.own id o q h1 h2 (h.lock▸h3) h4 with h5|⟨dJ,o0,q0,a,b,c,d,e⟩
  ·omega
  ·rw[<-e];exact hno dJ o0 q0 a b c d
 ·intro id o q h1 h2 h3 h4;rcases k.own id o q h1 h2 (by rw[h.lock];exact h3) h4 with h5|⟨dJ,o0,q0,a,b,c,d,e⟩
  ·exact .inl (jD h.size h5)
  ·rcases h.own dJ o0 q0 a b (h.lock▸c) d with h6|⟨id1,o1,q1,a1,b1,c1,d1,e1⟩
   ·left;omega
   ·exact .inr ⟨id1,o1,q1,a1,b1,c1,d1,e1.trans e⟩
theorem SR.hasLt{P:Program}{F:Env}{J:aA}{w:World}(h:SR P F J w){id:Nat}(hh:F.has id):id<J.next:=hh.elim (λ⟨q,hq⟩=>h.dom id q hq) λhg=>(h.jH id hg).2
theorem SR.OI{P:Program}{F:Env}{J:aA}{w:World}(h:SR P F J w){id:Nat}{o:bn}(ho:J.get id=some o):F.has id:=(h.live id o ho).elim (λ⟨q,hq,_⟩=>.inl ⟨q,hq⟩) λ⟨hg,_⟩=>.inr hg
theorem St.aur{P:Program}{F F':Env}{J J':aA}{w w':World}(h:St P F J w F' J' w'){id:Nat}{q:Place}(hq:F' id=some q):F id=some q\/(J.next<=id/\id<J'.next):=by
 rcases h.new id (.inl ⟨q,hq⟩)with(⟨p,hp⟩|hg)|hn
 ·have:=h.ext.pl _ _ hp;rw[hq]at this;cases this;exact .inl hp
 ·have:=(h.rel.jH id (h.ext.gh _ hg)).1;rw[hq]at this;cases this
 ·exact .inr hn
theorem SR.drew{P:Program}{F:Env}{J:aA}{w:World}(h:SR P F J w):SR P F J {w with drawn:=w.drawn+1}:=
 ⟨h.mg,h.dom,λid o ho=>(h.live id o ho).heap (w:=w) (λ_ _ _=>rfl),h.jH,h.sep,h.iT,h.kN,h.tabs⟩
theorem St.drew{P:Program}{F:Env}{J:aA}{w:World}(h:SR P F J w):St P F J w F J {w with drawn:=w.drawn+1}:=
 ⟨Env.le.refl _,h.drew,bV _,λ_ _ _=>rfl,λid o q h1 h2 h3 h4=>.inr ⟨id,o,q,h1,h2,h3,h4,rfl⟩,rfl,rfl,rfl,rfl,bV _,λ_ h=>.inl h,λ_ h=>.inl h⟩
theorem qw(bl off n:Nat):(⟨bl,off,none⟩:Addr).add n=⟨bl,off+n,none⟩:=by
 unfold Addr.add;split
 ·next h=>simp[h]
 ·rfl
theorem Oc{w:World}{bl off:Nat}{cs:QQ}{elem:TypeId}{fr:Nat×Nat}(h:w.heap[bl]? =some (.cells cs elem fr)):
 w.cell? ⟨bl,off,none⟩=cs[off]?:=by
 simp[World.cell?,h]
theorem ae2{w:World}{bl off:Nat}{cs:QQ}{elem:TypeId}{fr:Nat×Nat}(h:w.heap[bl]? =some (.cells cs elem fr)):
 w.frozen? ⟨bl,off,none⟩=(decide (fr.1<=off)&&decide (off<fr.2)):=by
 simp[World.frozen?,h]
theorem run_loadCellsFrom{P:Program}{w:World}{bl off:Nat}{cs:QQ}{elem:TypeId}{fr:Nat×Nat}(h:w.heap[bl]? =some (.cells cs elem fr)):
 ∀(n i:Nat)(acc:QQ),off+i+n<=cs.size->
  (loadCellsFrom ⟨bl,off,none⟩ i n acc).run P w=.ok (acc++(cs.toList.drop (off+i)).take n) w:=by
 intro n;induction n with
 |zero=>intro i acc _;simp[loadCellsFrom]
 |succ n ih=>
  intro i acc hle;have hlt:off+i<cs.size:=by omega
  have hc:w.cell? ⟨bl,off+i,none⟩=some cs[off+i]:=by rw[Oc h];simp[hlt]
  simp only[loadCellsFrom,aS,qw];have hl:(load ⟨bl,off+i,none⟩).run P w=.ok cs[off+i] w:=by simp[load,Sem.run,hc]
  rw[hl];simp only[aQ];rw[ih (i+1) _ (by omega)];congr 1;have:cs.toList.drop (off+i)=cs[off+i]::cs.toList.drop (off+(i+1)):=by rw[gY (by simpa using hlt)];simp[jL]
  rw[this];simp
theorem run_loadCells{P:Program}{w:World}{bl off n:Nat}{cs:QQ}{elem:TypeId}{fr:Nat×Nat}(h:w.heap[bl]? =some (.cells cs elem fr))(hle:off+n<=cs.size):
 (loadCells ⟨bl,off,none⟩ n).run P w=.ok ⟨(cs.toList.drop off).take n⟩ w:=by
 unfold loadCells;rw[run_loadCellsFrom h n 0 #[] (by simpa using hle)];simp
theorem aij{P:Program}{w:World}{bl off:Nat}{cs:QQ}{elem:TypeId}{fr:Nat×Nat}{x:Value}(h:w.heap[bl]? =some (.cells cs elem fr))(hx:cs[off]? =some x):
 (load ⟨bl,off,none⟩).run P w=.ok x w:=by
 have hc:w.cell? ⟨bl,off,none⟩=some x:=by rw[Oc h,hx]
 simp[load,Sem.run,hc]
def setFrom(cs:QQ)(off:Nat):Q6->Array Value
 |[]=>cs
 |v::vs=>setFrom (cs.setIfInBounds off v) (off+1) vs
theorem Me:∀(vs:Q6)(cs:QQ)(off:Nat),(setFrom cs off vs).size=cs.size
 |[],_,_=>rfl
 |v::vs,cs,off=>by rw[setFrom,Me vs];simp
theorem Vp:∀(vs:Q6)(cs:QQ)(off k:Nat),off+vs.length<=cs.size->
 (setFrom cs off vs)[k]? =if off<=k/\k<off+vs.length then vs[k-off]? else cs[k]?
 |[],cs,off,k,h=>by simp[setFrom];omega
 |v::vs,cs,off,k,h=>by
  simp only[gQ]at h;rw[setFrom,Vp vs _ _ _ (by simp;omega)];by_cases h1:off+1<=k/\k<off+1+vs.length
  ·rw[aj h1,aj ⟨by omega,by simp;omega⟩];have:k-off=(k-(off+1))+1:=by omega
   rw[this];simp
  ·rw[ah h1];by_cases h2:k=off
   ·subst h2;rw[aj ⟨Nat.le_refl _,by simp⟩];have hk:k<cs.size:=by omega
    simp[hk]
   ·rw[ah (by simp only[gQ];omega)];rw[BI,ah (λe=>h2 e.symm)]
def ng(w:World)(bl:Nat)(o:Obj):World:={w with heap:=w.heap.setIfInBounds bl o}
theorem Bj{w:World}{bl:Nat}{o o':Obj}(h:w.heap[bl]? =some o):(ng w bl o').heap[bl]? =some o':=by have:bl<w.heap.size:=(qh.1 h).1;simp[ng,this]
theorem Dz{w:World}{bl k:Nat}{o':Obj}(h:k≠bl):(ng w bl o').heap[k]? =w.heap[k]?:=by simp only[ng];rw[BI,ah (λe=>h e.symm)]
theorem DC{w:World}{bl:Nat}{o':Obj}:(ng w bl o').heap.size=w.heap.size:=by simp[ng]
theorem ay0{w:World}{bl:Nat}{o o':Obj}:ng (ng w bl o) bl o'=ng w bl o':=by simp only[ng];congr 1;apply Qr;intro i;simp only[BI,Array.size_setIfInBounds];split<;>rfl
theorem setCell_eq{w:World}{bl off:Nat}{cs:QQ}{elem:TypeId}{fr:Nat×Nat}(h:w.heap[bl]? =some (.cells cs elem fr))(v:Value):
 w.setCell ⟨bl,off,none⟩ v=ng w bl (.cells (cs.setIfInBounds off v) elem fr):=by
 unfold World.setCell ng;congr 1;apply Qr;intro i;rw[Jw,BI];by_cases e:bl=i
 ·subst e;have:bl<w.heap.size:=(qh.1 h).1;rw[aj rfl,aj rfl,aj this,h];rfl
 ·rw[ah e,ah e]
theorem ayZ{w:World}{bl:Nat}{o:Obj}(h:w.heap[bl]? =some o):ng w bl o=w:=by
 unfold ng;have:w.heap.setIfInBounds bl o=w.heap:=by
  apply Qr;intro i;rw[BI];by_cases e:bl=i
  ·subst e;have:bl<w.heap.size:=(qh.1 h).1;rw[aj rfl,aj this,h]
  ·rw[ah e]
 rw[this]
def nZ:Value->Bool
 |.agg _|.tuple _=>false
 |_=>true
theorem aa0{P:Program}:∀(vs:Q6)(w:World)(bl off i:Nat)(cs:QQ)(elem:TypeId)(fr:Nat×Nat),
 w.heap[bl]? =some (.cells cs elem fr)->off+i+vs.length<=cs.size->(∀v∈vs,nZ v=true)->
 (∀k,off+i<=k->k<off+i+vs.length->¬(fr.1<=k/\k<fr.2))->
 (storeCells ⟨bl,off,none⟩ vs i).run P w=.ok () (ng w bl (.cells (setFrom cs (off+i) vs) elem fr))
 |[],w,bl,off,i,cs,elem,fr,h,_,_,_=>by simp[storeCells,setFrom,ayZ h]
 |v::vs,w,bl,off,i,cs,elem,fr,h,hle,hone,hfr=>by
  simp only[gQ]at hle hfr;have hlt:off+i<cs.size:=by omega
  have hc:w.cell? ⟨bl,off+i,none⟩=some cs[off+i]:=by rw[Oc h];simp[hlt]
  have hf:w.frozen? ⟨bl,off+i,none⟩=false:=by rw[ae2 h];have:=hfr (off+i) (by omega) (by omega);simpa using this
  have hv:=hone v (by simp);have hs:(store ⟨bl,off+i,none⟩ v).run P w=.ok () (ng w bl (.cells (cs.setIfInBounds (off+i) v) elem fr)):=by rw[<-setCell_eq h];cases v<;>simp[nZ]at hv<;>simp[store,Sem.run,hc,hf]
  simp only[storeCells,aS,qw,hs,aQ];rw[aa0 vs _ bl off (i+1) (cs.setIfInBounds (off+i) v) elem fr (Bj h) (by simp;omega) (λx hx=>hone x (by simp[hx])) (λk h1 h2=>hfr k (by omega) (by omega))];rw[ay0];rfl
def Env.put(F:Env)(id:Nat)(q:Place):Env:=⟨λk=>if k=id then some q else F k,F.ro,F.gh⟩
theorem Env.FD{P:Program}{F:Env}{J:aA}{w:World}(h:SR P F J w)(q:Place):F.le (F.put J.next q):=by refine⟨λid p hp=>?_,λ_ _ h=>h,λ_ h=>h⟩;have:=h.dom id p hp;simp only[Env.put];rw[ah (by omega)];exact hp
theorem uP{w:World}{k:Nat}{o:Obj}(h:w.heap[k]? =some o):k<w.heap.size:=(qh.1 h).1
theorem OR.lt{P:Program}{F:Env}{q:Place}{w:World}{o:bn}(h:OR P F q w o):q.bl<w.heap.size:=by
 cases o with
 |cells c et rw opn=>obtain⟨cs,elem,fr,h1,_⟩:=h;exact uP h1
 |iter s pos=>exact uP h.1
 |map es=>obtain⟨ms,clock,h1,_⟩:=h;exact uP h1
 |iterM m=>cases m with
  |none=>obtain⟨_,_,_,h1⟩:=h;exact uP h1
  |some m=>obtain⟨_,_,_,_,_,h1⟩:=h;exact uP h1
 |vec n et f=>obtain⟨_,_,_,_,_,_,h1,_⟩:=h;exact uP h1
 |smap n kk sz=>obtain⟨_,_,_,_,h1,_⟩:=h;exact uP h1
 |pmap es=>obtain⟨_,_,_,_,h1,_⟩:=h;exact uP h1
theorem Env.aaM{P:Program}{F:Env}{J:aA}{w:World}(h:SR P F J w)(q:Place){n:Nat}(hn:J.next<n):∀id,(F.put J.next q).gh id=true->(F.put J.next q) id=none/\id<n:=by intro id hid;obtain⟨h1,h2⟩:=h.jH id hid;refine⟨?_,by omega⟩;simp only[Env.put];rw[ah (by omega)];exact h1
theorem St.alloc{P:Program}{F:Env}{J:aA}{w:World}(h:SR P F J w)(o:bn)(oc:Obj)(q:Place)(hq:q.bl=w.heap.size)
 (ho:OR P (F.put J.next q) q {w with heap:=w.heap.push oc} o):St P F J w (F.put J.next q) (J.new o) {w with heap:=w.heap.push oc}:=by
 have hle:=Env.FD h q;have hat:∀k,k<w.heap.size->(w.heap.push oc)[k]? =w.heap[k]?:=λk hk=>by rw[Nk,ah (by omega)]
 have OT:∀b o,F.ro b=some o->b<w.heap.size:=λb o hb=>uP (h.iT b o hb);refine⟨hle,⟨?_,?_,?_,Env.aaM h q (BM _),?_,λb o hb=>?_,λid o1 p a1 a2 a3=>?_,λp hp=>(h.tabs p hp).mono hle⟩,by simp,λbl hbl _=>hat bl hbl,?_,rfl,rfl,rfl,rfl,Nat.le_succ _,?_,λ_ h=>.inl h⟩;rotate_right
 ·rintro id (⟨p,hp⟩|hg)
  ·simp only[Env.put]at hp;split at hp
   ·next e=>subst e;exact .inr ⟨Nat.le_refl _,BM _⟩
   ·exact .inl (.inl ⟨p,hp⟩)
  ·exact .inl (.inr hg)
 ·intro g hg;obtain⟨sz,es,h1⟩:=h.mg g hg;exact⟨sz,es,hle.pl _ _ h1⟩
 ·intro id p hp;simp only[Env.put]at hp;show id<J.next+1
  split at hp
  ·omega
  ·have:=h.dom id p hp;omega
 ·intro id o' ho';rw[aA.oK]at ho';split at ho'
  ·next e=>cases ho';subst e;exact .inl ⟨q,by simp[Env.put],ho⟩
  ·exact((h.live id o' ho').heap (w:=w) (λp _ hr=>hat _ hr.lt)).mono hle
 ·intro id o1 id' o2 p p' h1 h2 h3 h4 h5 h6;rw[aA.oK]at h1 h3;simp only[Env.put]at h5 h6;split at h1<;>split at h3
  ·omega
  ·next e e'=>
   rw[aj e]at h5;rw[ah e']at h6;cases h5;have:=(h.at h3 h6).lt;omega
  ·next e e'=>
   rw[ah e]at h5;rw[aj e']at h6;cases h6;have:=(h.at h1 h5).lt;omega
  ·next e e'=>
   rw[ah e]at h5;rw[ah e']at h6;exact h.sep id o1 id' o2 p p' h1 h2 h3 h4 h5 h6
 ·exact(hat b (OT b o hb)).trans (h.iT b o hb)
 ·rw[aA.oK]at a1;simp only[Env.put]at a3⊢;split at a1
  ·next e=>
   rw[aj e]at a3;cases a3;cases hro:F.ro q.bl with
   |none=>rfl
   |some o2=>have:=OT _ _ hro;omega
  ·next e=>rw[ah e]at a3;exact h.kN id o1 p a1 a2 a3
 ·intro id o1 p h1 h2 h3 h4;rw[aA.oK]at h1;simp only[Env.put]at h4;split at h1
  ·next e=>rw[aj e]at h4;cases h4;left;omega
  ·next e=>rw[ah e]at h4;exact .inr ⟨id,o1,p,h1,h2,h3,h4,rfl⟩
theorem St.write{P:Program}{F:Env}{J:aA}{w w':World}(h:SR P F J w){id:Nat}{o o':bn}{q:Place}(hg:J.get id=some o)(ho:o.own=true)(hl:J.lock<=id)
 (hq:F id=some q) (hsz:w'.heap.size=w.heap.size) (hk:∀k,k≠q.bl->w'.heap[k]? =w.heap[k]?) (h1:w'.os=w.os) (h2:w'.tape=w.tape) (h3:w'.output=w.output)
 (hr:OR P F q w' o'):St P F J w F (J.put id o') w':=by
 have hro:=h.kN id o q hg ho hq;refine⟨Env.le.refl _,⟨h.mg,h.dom,?_,h.jH,?_,λb o2 hb=>?_,λid2 o2 p a1 a2 a3=>?_,h.tabs⟩,by omega,?_,?_,h1,h2,h3,rfl,bV _,λ_ h=>.inl h,λ_ h=>.inl h⟩
 ·intro id' o2 h4;rw[aA.get_put]at h4;split at h4
  ·next e=>cases h4;subst e;exact .inl ⟨q,hq,hr⟩
  ·next e=>exact(h.live id' o2 h4).heap (w:=w) λp hp _=>hk _ (h.sep id o id' o2 q p hg ho h4 (λe'=>e e'.symm) hq hp).symm
 ·intro id1 o1 id2 o2 p p' a b c d e f;rw[aA.get_put]at a c;split at a<;>split at c
  ·omega
  ·next e1 e2=>subst e1;exact h.sep id1 o id2 o2 p p' hg ho c d e f
  ·next e1 e2=>subst e2;exact h.sep id1 o1 id2 o p p' a b hg d e f
  ·exact h.sep id1 o1 id2 o2 p p' a b c d e f
 ·rw[hk b (λe=>by rw[e]at hb;rw[hro]at hb;cases hb)];exact h.iT b o2 hb
 ·rw[aA.get_put]at a1;split at a1
  ·next e=>subst e;rw[hq]at a3;cases a3;exact hro
  ·exact h.kN id2 o2 p a1 a2 a3
 ·intro bl hbl hno;exact hk bl (hno id o q hg ho hl hq).symm
 ·intro id1 o1 p a b c d;rw[aA.get_put]at a;split at a
  ·next e=>subst e;exact .inr ⟨id1,o,p,hg,ho,hl,d,rfl⟩
  ·exact .inr ⟨id1,o1,p,a,b,c,d,rfl⟩
theorem St.again{P:Program}{F:Env}{J:aA}{w w':World}(h:SR P F J w){id:Nat}{o o':bn}{q q':Place}(hg:J.get id=some o)(ho:o.own=true)(hl:J.lock<=id)
 (hq:F id=some q) (hq':q'.bl=q.bl) (hsz:w'.heap.size=w.heap.size) (hk:∀k,k≠q.bl->w'.heap[k]? =w.heap[k]?) (h1:w'.os=w.os) (h2:w'.tape=w.tape) (h3:w'.output=w.output)
 (hr:OR P (F.put J.next q') q' w' o'):St P F J w (F.put J.next q') ((J.kill id).new o') w':=by
 have hle:=Env.FD h q';have hid:id<J.next:=h.dom id q hq;have get:∀k,((J.kill id).new o').get k=if k=J.next then some o' else if k=id then none else J.get k:=λk=>by rw[aA.oK,aA.yh];rfl
 have hro:=h.kN id o q hg ho hq;refine⟨hle,⟨?_,?_,?_,Env.aaM h q' (BM _),?_,λb o2 hb=>?_,λid2 o2 p a1 a2 a3=>?_,λp hp=>(h.tabs p hp).mono hle⟩,by omega,?_,?_,h1,h2,h3,rfl,Nat.le_succ _,?_,λ_ h=>.inl h⟩;rotate_right
 ·rintro id (⟨p,hp⟩|hg)
  ·simp only[Env.put]at hp;split at hp
   ·next e=>subst e;exact .inr ⟨Nat.le_refl _,BM _⟩
   ·exact .inl (.inl ⟨p,hp⟩)
  ·exact .inl (.inr hg)
 ·intro g hg;obtain⟨sz,es,h1⟩:=h.mg g hg;exact⟨sz,es,hle.pl _ _ h1⟩
 ·intro k p hp;simp only[Env.put]at hp;show k<J.next+1
  split at hp
  ·omega
  ·have:=h.dom k p hp;omega
 ·intro k o2 h4;rw[get]at h4;split at h4
  ·next e=>cases h4;subst e;exact .inl ⟨q',by simp[Env.put],hr⟩
  ·split at h4
   ·cases h4
   ·next e e2=>exact((h.live k o2 h4).heap (w:=w) λp hp _=>hk _ (h.sep id o k o2 q p hg ho h4 (λe'=>e2 e'.symm) hq hp).symm).mono hle
 ·intro id1 o1 id2 o2 p p' a b c d e f;rw[get]at a c;simp only[Env.put]at e f;split at a<;>split at c
  ·omega
  ·next e1 e2=>
   split at c
   ·cases c
   ·next e3=>
    rw[aj e1]at e;rw[ah e2]at f;cases e;rw[hq'];exact h.sep id o id2 o2 q p' hg ho c (λe'=>e3 e'.symm) hq f
  ·next e1 e2=>
   split at a
   ·cases a
   ·next e3=>
    rw[ah e1]at e;rw[aj e2]at f;cases f;rw[hq'];exact h.sep id1 o1 id o p q a b hg e3 e hq
  ·next e1 e2=>
   split at a
   ·cases a
   ·split at c
    ·cases c
    ·rw[ah e1]at e;rw[ah e2]at f;exact h.sep id1 o1 id2 o2 p p' a b c d e f
 ·rw[hk b (λe=>by rw[e]at hb;have hb':F.ro q.bl=some o2:=hb;rw[hro]at hb';cases hb')];exact h.iT b o2 hb
 ·rw[get]at a1;simp only[Env.put]at a3⊢;split at a1
  ·next e=>rw[aj e]at a3;cases a3;rw[hq'];exact hro
  ·next e=>
   rw[ah e]at a3;split at a1
   ·cases a1
   ·exact h.kN id2 o2 p a1 a2 a3
 ·intro bl hbl hno;exact hk bl (hno id o q hg ho hl hq).symm
 ·intro id1 o1 p a b c d;rw[get]at a;simp only[Env.put]at d;split at a
  ·next e=>rw[aj e]at d;cases d;exact .inr ⟨id,o,q,hg,ho,hl,hq,hq'.symm⟩
  ·next e=>
   rw[ah e]at d;split at a
   ·cases a
   ·exact .inr ⟨id1,o1,p,a,b,c,d,rfl⟩
theorem SR.sub{P:Program}{F:Env}{J τ:aA}{w:World}(h:SR P F J w)(hs:∀id o,τ.get id=some o->J.get id=some o)(hn:J.next<=τ.next):SR P F τ w:=
 ⟨h.mg,λid q hq=>wZ (h.dom id q hq) hn,λid o ho=>h.live id o (hs id o ho),λid hid=>⟨(h.jH id hid).1,wZ (h.jH id hid).2 hn⟩,
  λid o id' o' q q' a b c d e f=>h.sep id o id' o' q q' (hs _ _ a) b (hs _ _ c) d e f,h.iT,λid o q a b c=>h.kN id o q (hs _ _ a) b c,h.tabs⟩
theorem St.sub{P:Program}{F F':Env}{J J' τ:aA}{w w':World}(h:St P F J w F' J' w')(hs:∀id o,τ.get id=some o->J'.get id=some o)(hn:J'.next<=τ.next)(hl:τ.lock=J'.lock):St P F J w F' τ w':=
 {h with rel:=h.rel.sub hs hn,own:=λid o q a b c d=>h.own id o q (hs _ _ a) b c d,lock:=hl.trans h.lock,next:=jD h.next hn,new:=λid hq=>(h.new id hq).imp (λx=>x) λ⟨a,b⟩=>⟨a,wZ b hn⟩}
