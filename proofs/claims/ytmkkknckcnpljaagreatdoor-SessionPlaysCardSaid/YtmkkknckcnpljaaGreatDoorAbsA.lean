/- Ground values, and the nodes by which a symbolic run names them. -/
import Derived.Calls
import Derived.Below
import Derived.Orders
import Derived.LoopN
import Derived.KernelRfl
import Derived.Laws.Strings
import Derived.WalkKit
set_option linter.all false
namespace Go.aO
abbrev X1:=List (Nat×FuncId)
abbrev WK:=List Bool
abbrev Ww:=Option Bool
abbrev Wt:=List (Nat×Nat)
abbrev Wr:=Option Value
abbrev Wm:=Array TypeId
abbrev Wd:=Option IntKind
abbrev W7:=List (Nat×Bool)
abbrev W5:=List (Option FuncId)
abbrev W4:=Array Oper
abbrev QR:=Option Nat
abbrev W6:=List (Nat×QR)
abbrev QQ:=Array Value
abbrev Qf:=Nat->Option Obj
abbrev Q6:=List Value
abbrev Q2:=List Nat
abbrev YY:=List (Q2×Nat)
abbrev Q0:=List UInt8
abbrev Wg:=List Q0
noncomputable section
abbrev ah:=@if_neg
abbrev aj:=@if_pos
abbrev aK:=@Bool.and_eq_true
abbrev aQ:=@Result.andThen_ok
abbrev aT:=@Sem.run_bind
abbrev aW:=@List.nil_append
abbrev aZ:=@Option.some.injEq
abbrev bg:=@Option.map_eq_some_iff
abbrev bD:=@List.mem_cons
abbrev bF:=@Sem.run_pure
abbrev bH:=@Nat.eq_of_beq_eq_true
abbrev bJ:=@List.cons_append
abbrev bK:=@List.drop_zero
abbrev bP:=@List.getElem?_eq_getElem
abbrev cO:=@List.drop_eq_nil_of_le
abbrev dF:=@List.drop_eq_getElem_cons
abbrev dH:=@List.length_drop
abbrev dW:=@List.getElem_mem
abbrev dY:=@Nat.le_refl
abbrev eX:=@List.length_append
abbrev fB:=@List.getElem?_eq_some_iff
abbrev gy:=@Bool.false_eq_true
abbrev gB:=@Option.map_some
abbrev gX:=@List.map_cons
abbrev iw:=@List.getElem?_map
abbrev iK:=@List.pairwise_cons
abbrev iW:=@List.mem_append
abbrev je:=@List.length_map
abbrev jl:=@List.eq_nil_of_length_eq_zero
abbrev jm:=@Nat.blt_eq
abbrev jw:=@List.length_cons
abbrev jF:=@List.flatMap_cons
abbrev jG:=@List.map_append
abbrev jH:=@Nat.add_assoc
abbrev jO:=@List.map_nil
abbrev jP:=@Nat.le_trans
abbrev jQ:=@Nat.zero_add
abbrev kN:=@List.length_take
abbrev kW:=@List.getElem?_cons_zero
abbrev lD:=@Nat.add_zero
abbrev lW:=@List.take_of_length_le
abbrev mG:=@List.getElem?_take
abbrev mJ:=@List.lt_irrefl
abbrev mY:=@Bool.or_eq_true
abbrev mZ:=@Int.natCast_zero
abbrev ng:=@List.append_nil
abbrev ny:=@List.getElem?_append_left
abbrev nP:=@List.drop_drop
abbrev nR:=@List.mem_map
abbrev nZ:=@List.length_nil
abbrev og:=@Prod.mk.injEq
abbrev pq:=@List.take_length
abbrev qj:=@Array.getElem?_eq_some_iff
abbrev qp:=@List.mem_of_getElem?
abbrev qN:=@Bool.eq_iff_iff
abbrev qP:=@Option.getD_some
abbrev rF:=@List.getElem?_drop
abbrev rH:=@Nat.add_mul
abbrev sW:=@List.all_cons
abbrev sZ:=@List.getElem?_eq_none
abbrev tq:=@Nat.le_of_ble_eq_true
abbrev tX:=@congrArg
abbrev uH:=@List.getElem?_cons_succ
abbrev uI:=@List.length_singleton
abbrev uM:=@Sem.run_ite
abbrev vJ:=@Array.getElem?_toList
abbrev vK:=@List.getElem?_append_right
abbrev vM:=@List.lt_trans
abbrev vP:=@Nat.lt_or_ge
abbrev vS:=@Nat.mul_le_mul_right
abbrev vT:=@Nat.zero_le
abbrev vU:=@Option.bind_some
abbrev xB:=@BitVec.toNat_ofInt
abbrev xE:=@List.cons.injEq
abbrev xF:=@List.not_lt
abbrev xG:=@Nat.lt_of_lt_of_le
abbrev xH:=@Option.bind_eq_some_iff
abbrev xI:=@Option.getD_none
abbrev yB:=@List.getD_eq_getElem?_getD
abbrev yC:=@List.mem_singleton
abbrev y9:=@Array.getD_eq_getD_getElem?
abbrev zf:=@Bool.not_eq_true'
abbrev zh:=@Classical.em
abbrev zk:=@List.mem_cons_of_mem
abbrev zl:=@List.mem_range
abbrev zF:=@decide_eq_false
abbrev Aq:=@Bool.false_or
abbrev Aw:=@List.drop_take
abbrev Az:=@List.singleton_append
abbrev AA:=@List.take_succ_cons
abbrev AL:=@Nat.sub_self
abbrev AO:=@Nat.sub_zero
abbrev Bh:=@decide_eq_true
abbrev CG:=@Array.getElem?_eq_getElem
abbrev CJ:=@Array.getElem?_setIfInBounds
abbrev CP:=@Int.toNat_natCast
abbrev CQ:=@List.take_add
abbrev CS:=@Nat.mul_comm
abbrev CU:=@Option.some.inj
abbrev Ez:=@List.getElem?_toArray
abbrev EC:=@List.length_pos_iff
abbrev ED:=@List.mem_filter
abbrev EF:=@List.take_append_drop
abbrev EG:=@Nat.pow_succ
abbrev He:=@List.findIdx?_cons
abbrev Hf:=@List.mem_nil_iff
abbrev Hg:=@List.mem_of_mem_take
abbrev Ho:=@Nat.min_eq_left
abbrev Hq:=@Nat.one_mul
abbrev JV:=@Array.getElem?_modify
abbrev JW:=@Array.length_toList
abbrev J4:=@List.ext_getElem?
abbrev J5:=@List.mem_of_mem_drop
abbrev J6:=@Nat.le_of_eq
abbrev J7:=@Nat.pow_le_pow_right
abbrev J8:=@Option.isNone_some
abbrev J9:=@Prod.exists
abbrev LX:=@of_decide_eq_true
abbrev Np:=@Array.ext'
abbrev Nq:=@Bool.and_true
abbrev Nr:=@Bool.or_false
abbrev Nv:=@Int.zero_add
abbrev Nw:=@List.getElem?_of_mem
abbrev Ny:=@List.length_filter_le
abbrev Nz:=@List.replicate_succ
abbrev NC:=@Nat.add_comm
abbrev ND:=@Nat.lt_succ_self
abbrev NG:=@Nat.mod_eq_of_lt
abbrev NH:=@Nat.mul_le_mul_left
abbrev NI:=@Nat.mul_pos
abbrev QC:=@Array.ext_getElem?
abbrev QD:=@Array.getElem?_push
abbrev QE:=@Bool.true_and
abbrev QG:=@Int.fdiv_eq_ediv_of_nonneg
abbrev QH:=@Int.le_refl
abbrev QI:=@Int.tmod_eq_emod_of_nonneg
abbrev QK:=@List.le_antisymm
abbrev QL:=@List.nodup_append
abbrev QM:=@List.perm_middle
abbrev QN:=@List.take_add_one
abbrev QO:=@List.take_append_of_le_length
abbrev QS:=@List.take_zero
abbrev QT:=@Nat.add_sub_cancel'
abbrev QU:=@Nat.testBit_or
abbrev Q5:=@UInt8.toNat_inj
abbrev WC:=@Array.getElem?_append_left
abbrev WE:=@Array.mapM_eq_mapM_toList
abbrev WG:=@Bool.not_true
abbrev WH:=@List.any_cons
abbrev WI:=@List.drop_append_of_le_length
abbrev WJ:=@List.drop_sublist
abbrev WM:=@List.drop_succ_cons
abbrev WO:=@List.filter_cons_of_neg
abbrev WQ:=@List.filter_cons_of_pos
abbrev WR:=@List.head?_cons
abbrev WS:=@List.le_iff_lt_or_eq
abbrev WT:=@List.length_eq_one_iff
abbrev WU:=@List.length_eq_zero_iff
abbrev WV:=@List.length_set
abbrev WW:=@List.map_drop
abbrev WX:=@List.map_take
abbrev WY:=@List.mem_iff_getElem?
abbrev WZ:=@List.mem_of_getLast?
abbrev W9:=@List.pairwise_iff_getElem
abbrev Xb:=@Nat.add_sub_cancel_left
abbrev Xc:=@Nat.eq_zero_or_pos
abbrev Xd:=@Nat.mul_add
abbrev Xe:=@Nat.mul_assoc
abbrev Xf:=@Option.map_eq_none_iff
abbrev Xg:=@Option.ne_none_iff_exists'
abbrev Xi:=@Sem.run_map
abbrev Xl:=@UInt8.toNat_lt
abbrev ace:=@Array.eq_empty_of_size_eq_zero
abbrev acf:=@Array.map_empty
abbrev acg:=@Array.size_range
abbrev ach:=@BitVec.toNat_and
abbrev acs:=@Int.tdiv_eq_ediv_of_nonneg
abbrev acu:=@Int.toNat_of_nonneg
abbrev acv:=@List.all_append
abbrev acw:=@List.all_nil
abbrev acy:=@List.cons_lt_cons_iff
abbrev acz:=@List.contains_iff_mem
abbrev acA:=@List.drop_append
abbrev acB:=@List.filter_cons
abbrev acC:=@List.find?_cons
abbrev acD:=@List.find?_eq_none
abbrev acE:=@List.flatMap_append
abbrev acF:=@List.getElem?_range
abbrev acH:=@List.mapM_cons
abbrev acI:=@List.map_set
abbrev acJ:=@List.mem_cons_self
abbrev acK:=@List.mem_flatMap
abbrev acL:=@List.mem_map_of_mem
abbrev acM:=@List.mem_or_eq_of_mem_set
abbrev acN:=@List.mem_replicate
abbrev acO:=@List.take_take
abbrev acP:=@Nat.ble_eq_true_of_le
abbrev acQ:=@Nat.mul_div_cancel
abbrev acS:=@Option.isSome_none
abbrev acT:=@Option.map_none
abbrev acU:=@Option.toList_some
abbrev acV:=@Prod.ext_iff
abbrev acZ:=@UInt8.lt_irrefl
abbrev ac2:=@World.cell?_of_block
abbrev akq:=@Classical.choose_spec
abbrev aks:=@List.concat_eq_append
abbrev akt:=@List.eq_nil_or_concat
abbrev aku:=@List.mem_append_right
abbrev akv:=@List.mem_of_find?_eq_some
abbrev akw:=@List.mem_zipIdx_iff_getElem?
abbrev aky:=@Nat.and_two_pow_sub_one_eq_mod
abbrev akz:=@Nat.le_mul_of_pos_right
abbrev akA:=@Nat.two_pow_add_eq_or_of_lt
abbrev akB:=@Option.isSome_iff_exists
inductive GV where
 |b (x:Bool)
 |i (k:IntKind) (n:Int)
 |s (x:Q0)
 |l (xs:List GV)
 |g (cs:List GV)
 deriving Inhabited
abbrev W8:=Nat->Option GV
abbrev W0:=Option GV
abbrev Q1:=List GV
abbrev Wk:=Option Q1
def GV.cells:GV->List GV
 |.g cs=>cs
 |v=>[v]
def GV.scalar:GV->Bool
 |.g _=>false
 |_=>true
def GV.dZ(size:Nat)(g:GV):Bool:=Nat.beq g.cells.length size&&g.cells.all GV.scalar
def gG(c:BinOp)(k:IntKind)(a b:Int):W0:=
 match c with
 |.add=>some (.i k (k.wrap (a+b)))
 |.sub=>some (.i k (k.wrap (a-b)))
 |.mul=>some (.i k (k.wrap (a*b)))
 |.quo=>if b=0 then none else some (.i k (k.wrap (a.tdiv b)))
 |.rem=>if b=0 then none else some (.i k (a.tmod b))
 |.and=>some (.i k (k.wrap (BitVec.ofInt k.bits a &&& BitVec.ofInt k.bits b).toNat))
 |.or=>some (.i k (k.wrap (BitVec.ofInt k.bits a |||BitVec.ofInt k.bits b).toNat))
 |.xor=>some (.i k (k.wrap (BitVec.ofInt k.bits a ^^^ BitVec.ofInt k.bits b).toNat))
 |.andNot=>some (.i k (k.wrap (BitVec.ofInt k.bits a &&& ~~~ BitVec.ofInt k.bits b).toNat))
 |.eql=>some (.b (a==b))
 |.neq=>some (.b (a !=b))
 |.lss=>some (.b (decide (a<b)))
 |.leq=>some (.b (decide (a<=b)))
 |.gtr=>some (.b (decide (a>b)))
 |.geq=>some (.b (decide (a>=b)))
 |_=>none
def oW(c:BinOp)(k:IntKind)(a b:Int):W0:=
 if b<0 then none else
 match c with
 |.shl=>some (.i k (k.wrap (a*2^(min b.toNat k.bits))))
 |.shr=>some (.i k (a.fdiv (2^(min b.toNat k.bits))))
 |_=>none
def xu(c:BinOp)(a b:Q0):W0:=
 match c with
 |.add=>if((a.length+b.length:Nat):Int)<=IntKind.i64.max then some (.s (a++b))else none
 |.eql=>some (.b (a==b))
 |.neq=>some (.b (!(a==b)))
 |.lss=>some (.b (Op.bytesLess a b))
 |.leq=>some (.b (Op.bytesLess a b ||a==b))
 |.gtr=>some (.b (!(Op.bytesLess a b ||a==b)))
 |.geq=>some (.b (!(Op.bytesLess a b)))
 |_=>none
def nG:Q2->List GV->List GV->Option Bool
 |[],[],[]=>some true
 |0::c,.i k a::l,.i d b::m=>if k=d then(nG c l m).map ((a==b)&&·)else none
 |1::c,.s a::l,.s b::m=>(nG c l m).map ((a==b)&&·)
 |2::c,.b a::l,.b b::m=>(nG c l m).map ((a==b)&&·)
 |_,_,_=>none
def iD(op:BinOp):GV->GV->Option GV
 |.i k a,.i c b=>match op with
  |.shl=>oW .shl k a b
  |.shr=>oW .shr k a b
  |op=>if k=c then gG op k a b else none
 |.s a,.s b=>xu op a b
 |_,_=>none
def RN(c:BinOp):GV->GV->Option GV
 |.b a,.b b=>match c with
  |.eql=>some (.b (a==b))
  |.neq=>some (.b (!(a==b)))
  |_=>none
 |_,_=>none
def Ky(d:BinOp)(c:Q2):GV->GV->Option GV
 |.g a,.g b=>match d with
  |.eql=>(nG c a b).map .b
  |.neq=>(nG c a b).map λr=>.b (!r)
  |_=>none
 |_,_=>none
def Wl(b:UnOp):GV->Option GV
 |.b a=>match b with
  |.not=>some (.b (!a))
  |_=>none
 |.i k n=>match b with
  |.neg=>some (.i k (k.wrap (0-n)))
  |.xor=>gG .xor k (if k.signed then -1 else k.max) n
  |_=>none
 |_=>none
def nD:Q1->Option Q0
 |[]=>some []
 |.i .u8 n::rest=>if 0<=n/\n<256 then(nD rest).map (UInt8.ofNat n.toNat::·)else none
 |_::_=>none
def dw(s:Q0):Q1:=s.map λb=>.i .u8 b.toNat
inductive Nd where
 |arg
 |ci (k:IntKind) (n:Int)
 |cb (x:Bool)
 |cs (x:Q0)
 |bin (op:BinOp) (a b:Nat)
 |EO (op:BinOp) (a b:Nat)
 |EP (op:BinOp) (ks:Q2) (a b:Nat)
 |un (op:UnOp) (a:Nat)
 |mm (big:Bool) (a b:Nat)
 |conv (k:IntKind) (a:Nat)
 |len (a:Nat)
 |slen (a:Nat)
 |GK (a i:Nat)
 |GL (a lo hi:Nat)
 |DU (size a lo hi:Nat)
 |idx (a i:Nat)
 |at(size a i:Nat)
 |cell (off a:Nat)
 |mk (l:Q2)
 |ml (l:Q2)
 |app (size bytes a b:Nat)
 |upd (size off a i:Nat) (vs:Q2)
 |rep (size bytes z l c:Nat)
 |bytes (a:Nat)
 |str (a:Nat)
 |GI (a:Nat)
 |same (a b:Nat)
 |zQ (a j:Nat)
 |call (f:Nat) (l:Q2) (j:Nat)
 |FU (z m k:Nat)
 |FV (m k:Nat)
 |BK (m k v:Nat)
 deriving Inhabited
abbrev WP:=List Nd
def oP:GV->GV->Bool
 |.i k a,.i c b=>Nat.beq (IntKind.casesOn k 0 1 2 3 4 5 6 7) (IntKind.casesOn c 0 1 2 3 4 5 6 7)&&a==b
 |.s a,.s b=>a==b
 |_,_=>false
def iI(k:GV):Q1->Option GV
 |[]=>none
 |.g [a,v]::l=>if oP k a=true then some v else iI k l
 |_::l=>iI k l
def lQ(k v:GV):Q1->List GV
 |[]=>[.g [k,v]]
 |.g [a,u]::l=>if oP k a=true then .g [k,v]::l else .g [a,u]::lQ k v l
 |x::l=>x::lQ k v l
def valsOf(val:W8):Q2->Option Q1
 |[]=>some []
 |n::l=>match val n,valsOf val l with
  |some g,some r=>some (g::r)
  |_,_=>none
def GV.int:GV->Option Int
 |.i _ n=>some n
 |_=>none
def putCells(cs:Q1)(off:Nat)(vs:Q1):Wk:=
 if off+vs.length<=cs.length then some (cs.take off++vs++cs.drop (off+vs.length))else none
def GV.put(x:GV)(off:Nat)(vs:Q1):W0:=
 match x with
 |.g a=>(putCells a off vs).map .g
 |_=>match off,vs with
  |0,[v]=>some v
  |_,_=>none
def Nd.den(I:Nat->List GV->Option Q1)(val:W8):Nd->Option GV
 |.arg=>none
 |.ci k n=>some (.i k n)
 |.cb x=>some (.b x)
 |.cs x=>some (.s x)
 |.bin e a b=>match val a,val b with
  |some x,some y=>iD e x y
  |_,_=>none
 |.EO e a b=>match val a,val b with
  |some x,some y=>RN e x y
  |_,_=>none
 |.EP e q a b=>match val a,val b with
  |some x,some y=>Ky e q x y
  |_,_=>none
 |.un e a=>match val a with
  |some x=>Wl e x
  |none=>none
 |.mm p a b=>match val a,val b with
  |some (.i k x),some (.i s y)=>if k=s then some (.i k (if p then(if x<y then y else x)else(if y<x then y else x)))else none
  |_,_=>none
 |.conv k a=>match val a with
  |some (.i _ n)=>some (.i k (k.wrap n))
  |_=>none
 |.len a=>match val a with
  |some (.l xs)=>some (.i .i64 xs.length)
  |_=>none
 |.slen a=>match val a with
  |some (.s x)=>some (.i .i64 x.length)
  |_=>none
 |.GK a i=>match val a,val i with
  |some (.s x),some (.i _ k)=>if 0<=k then match x[k.toNat]? with
   |some c=>some (.i .u8 c.toNat)
   |none=>none
   else none
  |_,_=>none
 |.GL a lo hi=>match val a,val lo,val hi with
  |some (.s x),some (.i _ l),some (.i _ h)=>if 0<=l/\l<=h/\h<=x.length then some (.s ((x.take h.toNat).drop l.toNat))else none
  |_,_,_=>none
 |.DU size a lo hi=>match val a,val lo,val hi with
  |some (.l xs),some (.i _ l),some (.i _ h)=>if 0<=l/\l<=h/\h<=xs.length/\(xs.all λx=>Nat.beq x.cells.length size)=true then some (.l ((xs.take h.toNat).drop l.toNat))else none
  |_,_,_=>none
 |.idx a i=>match val a,val i with
  |some (.l xs),some (.i _ k)=>if 0<=k/\k<xs.length then some (.i .i64 k)else none
  |_,_=>none
 |.at size a i=>match val a,val i with
  |some (.l xs),some (.i _ k)=>if 0<=k then match xs[k.toNat]? with
   |some x=>if x.cells.length=size then some x else none
   |none=>none
   else none
  |_,_=>none
 |.cell off a=>match val a with
  |some g=>match g.cells[off]? with
   |some c=>if c.scalar then some c else none
   |none=>none
  |none=>none
 |.mk l=>match valsOf val l with
  |some gs=>if gs.all GV.scalar then some (.g gs)else none
  |none=>none
 |.ml l=>(valsOf val l).map .l
 |.app size t a b=>match val a,val b with
  |some (.l xs),some (.l o)=>if o.all (GV.dZ size)=true/\2*(xs.length+o.length)*t<=2^48/\xs.length+o.length<=2^48 then some (.l (xs++o))else none
  |_,_=>none
 |.upd size off a i vs=>match val a,val i,valsOf val vs with
  |some (.l xs),some (.i _ k),some gs=>
   if 0<=k/\gs.all GV.scalar=true then match xs[k.toNat]? with
   |some x=>if x.cells.length=size then(x.put off gs).map λy=>.l (xs.set k.toNat y)else none
   |none=>none
   else none
  |_,_,_=>none
 |.rep size w z l c=>match val z,val l,val c with
  |some x,some (.i _ n),some (.i _ m)=>if 0<=n/\n<=m/\w*m<=2^48/\m<=2^60/\x.dZ size=true then some (.l (List.replicate n.toNat x))else none
  |_,_,_=>none
 |.bytes a=>match val a with
  |some (.s x)=>some (.l (dw x))
  |_=>none
 |.str a=>match val a with
  |some (.l xs)=>if xs.length<=2^48 then(nD xs).map .s else none
  |_=>none
 |.GI a=>match val a with
  |some (.s x)=>some (.s x)
  |_=>none
 |.same a b=>match val a,val b with
  |some (.l xs),some (.l o)=>if o.length=xs.length then some (.l o)else none
  |_,_=>none
 |.zQ a j=>match val a with
  |some (.i _ m)=>some (.b (decide (m=(j:Int))))
  |_=>none
 |.call f l j=>match valsOf val l with
  |some gs=>match I f gs with
   |some r=>r[j]?
   |none=>none
  |none=>none
 |.FU z m k=>match val z,val m,val k with
  |some d,some (.l xs),some g=>some ((iI g xs).getD d)
  |_,_,_=>none
 |.FV m k=>match val m,val k with
  |some (.l xs),some g=>some (.b (iI g xs).isSome)
  |_,_=>none
 |.BK m k v=>match val m,val k,val v with
  |some (.l xs),some g,some u=>some (.l (lQ g u xs))
  |_,_,_=>none
def uZ(o:BinOp):Nat:=BinOp.casesOn o 0 1 2 3 4 5 6 7 8 9 10 11 12 13 14 15 16
def awj{o o':BinOp}(h:Nat.beq (uZ o) (uZ o')=true):o=o':=by cases o<;>cases o'<;>first|rfl|(simp[uZ]at h)
def JI(o:UnOp):Nat:=UnOp.casesOn o 0 1 2 3
def aCu{o o':UnOp}(h:Nat.beq (JI o) (JI o')=true):o=o':=by cases o<;>cases o'<;>first|rfl|(simp[JI]at h)
def kc(k:IntKind):Nat:=IntKind.casesOn k 0 1 2 3 4 5 6 7
def Ut{o o':IntKind}(h:Nat.beq (kc o) (kc o')=true):o=o':=by cases o<;>cases o'<;>first|rfl|(simp[kc]at h)
def yg:Q2->List Nat->Bool
 |[],[]=>true
 |a::l,b::m=>Nat.beq a b&&yg l m
 |_,_=>false
def Z8:∀{l m:Q2},yg l m=true->l=m
 |[],[],_=>rfl
 |a::l,b::m,h=>by simp only[yg,aK]at h;rw[bH h.1,Z8 h.2]
 |[],_::_,h=>by simp[yg]at h
 |_::_,[],h=>by simp[yg]at h
def Bc:Q0->List UInt8->Bool
 |[],[]=>true
 |a::l,b::m=>Nat.beq a.toNat b.toNat&&Bc l m
 |_,_=>false
def XK:∀{l m:Q0},Bc l m=true->l=m
 |[],[],_=>rfl
 |a::l,b::m,h=>by simp only[Bc,aK]at h;rw[Q5.1 (bH h.1),XK h.2]
 |[],_::_,h=>by simp[Bc]at h
 |_::_,[],h=>by simp[Bc]at h
def IZ(a b:Int):Bool:=match a,b with
 |.ofNat m,.ofNat n=>Nat.beq m n
 |.negSucc m,.negSucc n=>Nat.beq m n
 |_,_=>false
def afN{a b:Int}(h:IZ a b=true):a=b:=by
 unfold IZ at h;split at h
 ·rw[bH h]
 ·rw[bH h]
 ·cases h
def Nd.eq(x y:Nd):Bool:=
 match x with
 |.arg=>false
 |.ci k n=>match y with|.ci t J=>Nat.beq (kc k) (kc t)&&IZ n J|_=>false
 |.cb b=>match y with|.cb e=>(bif b then e else !e)|_=>false
 |.cs s=>match y with|.cs q=>Bc s q|_=>false
 |.bin u a b=>match y with|.bin p d e=>Nat.beq a d&&Nat.beq b e&&Nat.beq (uZ u) (uZ p)|_=>false
 |.EO u a b=>match y with|.EO p d e=>Nat.beq a d&&Nat.beq b e&&Nat.beq (uZ u) (uZ p)|_=>false
 |.EP u L a b=>match y with|.EP p D d e=>Nat.beq a d&&Nat.beq b e&&Nat.beq (uZ u) (uZ p)&&yg L D|_=>false
 |.un u a=>match y with|.un p d=>Nat.beq a d&&Nat.beq (JI u) (JI p)|_=>false
 |.mm g a b=>match y with|.mm I d e=>Nat.beq a d&&Nat.beq b e&&(bif g then I else !I)|_=>false
 |.conv k a=>match y with|.conv t d=>Nat.beq a d&&Nat.beq (kc k) (kc t)|_=>false
 |.len a=>match y with|.len d=>Nat.beq a d|_=>false
 |.slen a=>match y with|.slen d=>Nat.beq a d|_=>false
 |.GK a i=>match y with|.GK d w=>Nat.beq a d&&Nat.beq i w|_=>false
 |.GL a l h=>match y with|.GL d r E=>Nat.beq a d&&Nat.beq l r&&Nat.beq h E|_=>false
 |.DU s a l h=>match y with|.DU q d r E=>Nat.beq s q&&Nat.beq a d&&Nat.beq l r&&Nat.beq h E|_=>false
 |.idx a i=>match y with|.idx d w=>Nat.beq a d&&Nat.beq i w|_=>false
 |.at s a i=>match y with|.at q d w=>Nat.beq s q&&Nat.beq a d&&Nat.beq i w|_=>false
 |.cell o a=>match y with|.cell F d=>Nat.beq o F&&Nat.beq a d|_=>false
 |.mk l=>match y with|.mk r=>yg l r|_=>false
 |.ml l=>match y with|.ml r=>yg l r|_=>false
 |.app z s a b=>match y with|.app A q d e=>Nat.beq z A&&Nat.beq s q&&Nat.beq a d&&Nat.beq b e|_=>false
 |.upd s o a i M=>match y with|.upd q F d w G=>Nat.beq s q&&Nat.beq o F&&Nat.beq a d&&Nat.beq i w&&yg M G|_=>false
 |.rep s b z l c=>match y with|.rep q e A r N=>Nat.beq s q&&Nat.beq b e&&Nat.beq z A&&Nat.beq l r&&Nat.beq c N|_=>false
 |.bytes a=>match y with|.bytes d=>Nat.beq a d|_=>false
 |.str a=>match y with|.str d=>Nat.beq a d|_=>false
 |.GI a=>match y with|.GI d=>Nat.beq a d|_=>false
 |.same a b=>match y with|.same d e=>Nat.beq a d&&Nat.beq b e|_=>false
 |.zQ a j=>match y with|.zQ d H=>Nat.beq a d&&Nat.beq j H|_=>false
 |.call f l j=>match y with|.call O r H=>Nat.beq f O&&Nat.beq j H&&yg l r|_=>false
 |.FU z m k=>match y with|.FU A B t=>Nat.beq z A&&Nat.beq m B&&Nat.beq k t|_=>false
 |.FV m k=>match y with|.FV B t=>Nat.beq m B&&Nat.beq k t|_=>false
 |.BK m k v=>match y with|.BK B t P=>Nat.beq m B&&Nat.beq k t&&Nat.beq v P|_=>false
def UZ{a b:Nat}:Nat.beq a b=true↔a=b:=⟨Nat.eq_of_beq_eq_true,λh=>by rw[h];exact Nat.beq_refl b⟩
def avT{l m:Q2}:yg l m=true↔l=m:=⟨Z8,λh=>by subst h;induction l with|nil=>rfl|cons a l b=>simp[yg,b]⟩
def adF{l m:Q0}:Bc l m=true↔l=m:=⟨XK,λh=>by subst h;induction l with|nil=>rfl|cons a l b=>simp[Bc,b]⟩
def afO{a b:Int}:IZ a b=true↔a=b:=⟨afN,λh=>by subst h;cases a<;>simp[IZ]⟩
def ahn{o o':BinOp}:uZ o=uZ o'↔o=o':=⟨λh=>awj (UZ.2 h),λh=>by rw[h]⟩
def aCt{o o':UnOp}:JI o=JI o'↔o=o':=⟨λh=>aCu (UZ.2 h),λh=>by rw[h]⟩
def aur{o o':IntKind}:kc o=kc o'↔o=o':=⟨λh=>Ut (UZ.2 h),λh=>by rw[h]⟩
def RI{a b:Bool}:(bif a then b else !b)=true↔a=b:=by cases a<;>cases b<;>simp
def Nd.eq_of{x y:Nd}(h:x.eq y=true):x=y/\x≠.arg:=by
 cases x<;>simp only[Nd.eq]at h
 case arg=>cases h
 all_goals
  split at h
  ·simp only[aK,UZ,avT,adF,afO,ahn,aCt,aur,RI]at h;simp_all
  ·cases h
class gY where
 nodes:WP
 dec:W7
 ka:Nat:=0
def OW(x:Nd):WP->Nat->Option Nat
 |[],_=>none
 |y::l,k=>bif x.eq y then some k else OW x l (k+1)
def fG[gY](x:Nd):QR:=OW x gY.nodes 0
def OM(n:Nat):W7->Option Bool
 |[]=>none
 |p::l=>bif Nat.beq n p.1 then some p.2 else OM n l
def Yi[gY](n:Nat):Ww:=OM n gY.dec
def ae3{x:Nd}:∀{l:WP}{k n:Nat},OW x l k=some n->k<=n/\l[n-k]? =some x/\x≠.arg
 |[],_,_,h=>by simp[OW]at h
 |y::l,k,n,h=>by
  simp only[OW]at h;cases a:x.eq y with
  |true=>rw[a]at h;simp only[cond_true,aZ]at h;subst h;obtain⟨rfl,b⟩:=Nd.eq_of a;exact⟨Nat.le_refl _,by simp,b⟩
  |false=>
   rw[a]at h;simp only[cond_false]at h;obtain⟨d,b,c⟩:=ae3 h;refine⟨by omega,?_,c⟩;have:n-k=(n-(k+1))+1:=by omega
   rw[this,uH];exact b
def arA[gY]{x:Nd}{n:Nat}(h:fG x=some n):gY.nodes[n]? =some x/\x≠.arg:=by obtain⟨_,a,b⟩:=ae3 h;exact⟨by simpa using a,b⟩
def OO{n:Nat}{b:Bool}:∀{l:W7},OM n l=some b->(n,b)∈l
 |[],h=>by simp[OM]at h
 |p::l,h=>by
  simp only[OM]at h;cases a:Nat.beq n p.1 with
  |true=>
   rw[a]at h;simp only[cond_true,aZ]at h;have:p=(n,b):=by rw[<-h,bH a]
   rw[this];simp
  |false=>rw[a]at h;simp only[cond_false]at h;exact zk _ (OO h)
inductive AV where
 |b (x:Bool)
 |i (k:IntKind) (n:Int)
 |s (x:Q0)
 |jD
 |p (id off:Nat)
 |gu
 |sl (id off len:Nat) (cap:QR)
 |oU
 |mp (id:Nat)
 |yR
 |fn (f:FuncId) (first caps:List AV)
 |sH
 |jc (t:TypeId) (v:AV)
 |agg (l:List AV)
 |eG (l:List AV)
 |z (k:IntKind) (lo hi:Int)
 |ro (l:List AV)
 |rp (a:AV) (off:Nat)
 |nd (n:Nat)
 |rx (n off:Nat)
 |sv (id n:Nat)
 |pv (id n off:Nat)
 |pd (id n:Nat)
 deriving Inhabited
abbrev X2:=List (AV×AV)
abbrev Wf:=List (Nat×AV)
abbrev QP:=Operand->Option AV
abbrev Q4:=Option AV
abbrev Q3:=List AV
abbrev Qt:=List (Nat×Q3)
structure Place where
 bl:Nat
 ba:Nat
 sz:Nat
 es:Nat
structure Env where
 pl:Nat->Option Place
 ro:Nat->Option Obj
 gh:Nat->Bool
instance:CoeFun Env (λ_=>Nat->Option Place):=⟨Env.pl⟩
class aI extends gY where
 tabs:Qt
 I:Nat->List GV->Option Q1
 val:Nat->Option GV
 qI:∀(n:Nat) nd,nodes[n]? =some nd->nd≠.arg->∃g,val n=some g/\nd.den I val=some g
 Bg:∀(n:Nat)(b:Bool),(n,b)∈dec->val n=some (.b b)
def dS(xs:Q6):Q6:=xs.flatMap λx=>x.cells.toList
def EW(cs:QQ)(off:Nat)(l:Q6):Prop:=∀(k:Nat) x,l[k]? =some x->cs[off+k]? =some x
mutual
def GR(ro:Qf):GV->Value->Prop
 |.b x,v=>v=.bool x
 |.i k n,v=>v=.int k n
 |.s x,v=>v=.string ⟨⟨x⟩⟩
 |.g cs,v=>∃vs,v=.agg ⟨vs⟩/\aP ro cs vs
 |.l xs,v=>(xs=[]/\∃p,v=.slice p 0 0)\/∃bl off c a sz,v=.slice (some ⟨bl,off,none⟩) xs.length c/\xs.length<=c/\aP ro xs a/\(∀x∈a,x.cells.size=sz)/\
   (xs≠[]->∃cs elem b,ro bl=some (.cells cs elem b)/\off+(dS a).length<=cs.size/\EW cs off (dS a))
def aP(ro:Qf):Q1->List Value->Prop
 |[],vs=>vs=[]
 |a::l,vs=>∃x xs,vs=x::xs/\GR ro a x/\aP ro l xs
end
variable[aI]
mutual
def VR(H:Env):AV->Value->Prop
 |.b x,v=>v=.bool x
 |.i k n,v=>v=.int k n
 |.s x,v=>v=.string ⟨⟨x⟩⟩
 |.jD,v=>v=.pointer none
 |.p id off,v=>∃q,H id=some q/\v=.pointer (some ⟨q.bl,q.ba+off,none⟩)
 |.gu,v=>v=.slice none 0 0
 |.sl id off len cap,v=>∃q,H id=some q/\len<=cap.getD ((q.sz-off)/q.es)/\v=.slice (some ⟨q.bl,q.ba+off,none⟩) len (cap.getD ((q.sz-off)/q.es))
 |.oU,v=>v=.map none
 |.mp id,v=>∃q,H id=some q/\v=.map (some q.bl)
 |.yR,v=>v=.nilFunc
 |.fn f fi b,v=>∃e vs,v=.func (.func f) ⟨e⟩ ⟨vs⟩/\aF H fi e/\aF H b vs
 |.sH,v=>v=.nilIface
 |.jc t a,v=>∃x,v=.iface t x/\VR H a x
 |.agg l,v=>∃vs,v=.agg ⟨vs⟩/\aF H l vs
 |.eG l,v=>∃vs,v=.tuple ⟨vs⟩/\aF H l vs
 |.z k lo hi,v=>∃n:Int,lo<=n/\n<=hi/\v=.int k n
 |.ro l,v=>(l=[]/\∃p,v=.slice p 0 0)\/∃bl off c xs sz,v=.slice (some ⟨bl,off,none⟩) l.length c/\l.length<=c/\aF H l xs/\(∀x∈xs,x.cells.size=sz)/\
   (l≠[]->∃cs elem d,H.ro bl=some (.cells cs elem d)/\off+(dS xs).length<=cs.size/\EW cs off (dS xs))
 |.rp a off,v=>∃bl base cs elem d x,H.ro bl=some (.cells cs elem d)/\VR H a x/\v=.pointer (some ⟨bl,base+off,none⟩)/\base+x.cells.size<=cs.size/\EW cs base x.cells.toList
 |.nd n,v=>∃g,aI.val n=some g/\g.scalar=true/\GR H.ro g v
 |.rx n off,v=>∃g bl base cs elem d x,aI.val n=some g/\H.ro bl=some (.cells cs elem d)/\GR H.ro g x/\v=.pointer (some ⟨bl,base+off,none⟩)/\base+x.cells.size<=cs.size/\EW cs base x.cells.toList
 |.sv id n,v=>∃xs,aI.val n=some (.l xs)/\((∃q,H id=some q/\xs.length<=q.sz/q.es/\v=.slice (some ⟨q.bl,q.ba,none⟩) xs.length (q.sz/q.es))\/(H.gh id=true/\xs=[]/\v=.slice none 0 0))
 |.pv id n off,v=>∃q k i,H id=some q/\aI.val n=some (.i k i)/\v=.pointer (some ⟨q.bl,q.ba+i.toNat*q.es+off,none⟩)
 |.pd id n,v=>∃xs p,aI.val n=some (.l xs)/\v=.pointer p/\(xs≠[]->∃q,H id=some q/\p=some ⟨q.bl,q.ba,none⟩)
def aF(H:Env):Q3->List Value->Prop
 |[],vs=>vs=[]
 |a::l,vs=>∃x xs,vs=x::xs/\VR H a x/\aF H l xs
end
inductive Tr(α:Type) where
 |nil
 |nd (v:Option α) (l r:Tr α)
 deriving Inhabited
def Tr.val{α:Type}(t:Tr α):Option α:=Tr.casesOn t none (λv _ _=>v)
def Tr.DT{α:Type}(t:Tr α):Tr α:=Tr.casesOn t .nil (λ_ l _=>l)
def Tr.Ec{α:Type}(t:Tr α):Tr α:=Tr.casesOn t .nil (λ_ _ r=>r)
def Tr.wO{α:Type}(p:WK):Tr α->Option α:=List.rec (motive:=λ_=>Tr α->Option α) Tr.val (λb _ a t=>a (bif b then t.DT else t.Ec)) p
def Tr.Jz{α:Type}(x:Option α)(p:WK):Tr α->Tr α:=List.rec (motive:=λ_=>Tr α->Tr α) (λt=>.nd x t.DT t.Ec)
 (λb _ a t=>bif b then .nd t.val (a t.DT) t.Ec else .nd t.val t.DT (a t.Ec)) p
def P8(f:Nat):Nat->List Bool:=Nat.rec (motive:=λ_=>Nat->List Bool) (λ_=>[]) (λ_ a n=>bif Nat.beq n 0 then[]else Nat.beq ((n-1)%2) 0::a ((n-1)/2)) f
def path(n:Nat):WK:=P8 (Nat.log2 n+1) n
def Tr.get{α:Type}(t:Tr α)(n:Nat):Option α:=Tr.wO (path n) t
def Tr.set{α:Type}(t:Tr α)(n:Nat)(x:Option α):Tr α:=Tr.Jz x (path n) t
inductive bC where
 |cells (c:Q3) (et:TypeId) (rw opn:Bool)
 |iter (s:Q0) (pos:Nat)
 |map (es:X2)
 |iterM (m:QR)
 |vec (n:Nat) (et:TypeId) (f:Bool)
 |smap (n:Nat) (kk:Wd) (sz:QR)
 |pmap (es:List (Q0×AV))
 deriving Inhabited
abbrev Ys:=List (Nat×bC)
abbrev Wz:=List (Nat×Option bC)
structure aA where
 h:Tr bC
 next:Nat
 lock:Nat
 deriving Inhabited
abbrev Wc:=Option (AV×aA)
abbrev W2:=Option (Q4×aA)
def aA.get(J:aA)(id:Nat):Option bC:=J.h.get id
def aA.put(J:aA)(id:Nat)(o:bC):aA:={J with h:=J.h.set id (some o)}
def aA.kill(J:aA)(id:Nat):aA:={J with h:=J.h.set id none}
def aA.new(J:aA)(o:bC):aA:={J with h:=J.h.set J.next (some o),next:=J.next+1}
def uq{α β:Type}(f:α->Option β):List α->Option (List β)
 |[]=>some []
 |x::xs=>match f x with
  |none=>none
  |some y=>match uq f xs with
   |none=>none
   |some a=>some (y::a)
def AV.toVal:Nat->AV->Option Value
 |0,_=>none
 |n+1,a=>
  match a with
  |.b x=>some (.bool x)
  |.i k x=>some (.int k x)
  |.s x=>some (.string ⟨⟨x⟩⟩)
  |.jD=>some (.pointer none)
  |.gu=>some (.slice none 0 0)
  |.oU=>some (.map none)
  |.yR=>some .nilFunc
  |.sH=>some .nilIface
  |.jc t v=>(AV.toVal n v).map (.iface t)
  |.agg l=>(uq (AV.toVal n) l).map λvs=>.agg ⟨vs⟩
  |.eG l=>(uq (AV.toVal n) l).map λvs=>.tuple ⟨vs⟩
  |_=>none
def mF:Nat->Value->Option AV
 |0,_=>none
 |n+1,v=>
  match v with
  |.bool x=>some (.b x)
  |.int k x=>some (.i k x)
  |.string s=>some (.s s.data.toList)
  |.pointer none=>some .jD
  |.slice none 0 0=>some .gu
  |.map none=>some .oU
  |.nilFunc=>some .yR
  |.nilIface=>some .sH
  |.iface t x=>(mF n x).map (.jc t)
  |.agg cs=>(uq (mF n) cs.toList).map .agg
  |.tuple cs=>(uq (mF n) cs.toList).map .eG
  |_=>none
def qg{α:Type}(P:Program):Sem α->Option α
 |.pure a=>some a
 |.program k=>qg P (k P)
 |.mark _ k=>qg P k
 |_=>none
structure bn where
 t:Tr AV
 n:Nat
 gn:Nat
def bn.eval(a:bn):Operand->Option AV
 |.tmp t=>a.t.get t
 |.const v=>mF 4 v
 |.global g=>if g<a.gn then some (.p g 0)else none
 |.func f=>some (.fn f [] [])
def bn.put(a:bn)(dst:Option Tmp)(v:Q4):Option bn:=
 match dst with
 |none=>some a
 |some d=>if d<a.n then some {a with t:=a.t.set d v}else none
def AV.cells:AV->List AV
 |.agg l=>l
 |v=>[v]
def AV.nU:AV->Bool
 |.agg _|.eG _=>false
 |_=>true
def y8(P:Program)(t:TypeId):Option Q3:=
 match P.info? t with
 |some i=>match i.zero with
  |some z=>(mF 4 z).map AV.cells
  |none=>none
 |none=>none
def oO(P:Program)(t:TypeId):Ww:=
 match P.underlying t with
 |some (.struct _)|some (.array _ _)=>some true
 |some _=>some false
 |none=>none
def sizeT(P:Program)(t:TypeId):QR:=(P.info? t).map (·.size)
def takeN(l:Q3)(off n:Nat):Option Q3:=
 let r:=(l.drop off).take n
 if r.length=n then some r else none
def Ad(l:Q3)(off:Nat)(vs:Q3):Option Q3:=
 if off+vs.length<=l.length then some (l.take off++vs++l.drop (off+vs.length))else none
def AQ(a:Nat->Option (Nat×Nat))(cells:Q3):Wf->Option Q3
 |[]=>some cells
 |(i,v)::rest=>
  match a i with
  |none=>none
  |some (off,size)=>
   if v.cells.length=size then
    match Ad cells off v.cells with
    |some cs=>AQ a cs rest
    |none=>none
   else none
def Fe(a:QP):List (Nat×Operand)->Option Wf
 |[]=>some []
 |(i,x)::rest=>match a x,Fe a rest with
  |some v,some r=>some ((i,v)::r)
  |_,_=>none
def Bo(a:QP):List Operand->Option Q3
 |[]=>some []
 |x::rest=>match a x,Bo a rest with
  |some v,some r=>some (v::r)
  |_,_=>none
def Rn(P:Program)(t:TypeId)(cs:Q3)(off:Nat):Q4:=
 match oO P t with
 |some true=>match sizeT P t with
  |some n=>(takeN cs off n).map .agg
  |none=>none
 |some false=>cs[off]?
 |none=>none
def Qk(P:Program):List Field->Option Wt
 |[]=>some []
 |f::fs=>match sizeT P f.type,Qk P fs with
  |some n,some r=>some ((f.offset,n)::r)
  |_,_=>none
def Q7(P:Program)(t:TypeId)(a:Wf):Q4:=
 match y8 P t,P.underlying t with
 |some zero,some (.struct b)=>
  match Qk P b.toList with
  |some c=>(AQ (λi=>c[i]?) zero a).map .agg
  |none=>none
 |some zero,some (.array _ e)=>
  match sizeT P e with
  |some d=>(AQ (λi=>some (i*d,d)) zero a).map .agg
  |none=>none
 |_,_=>none
def jv(n:Nat)(zero:Q3):Q3:=(List.replicate n zero).flatten
def vY(P:Program)(t:TypeId)(J:aA)(a:AV):Q4:=
 match a with
 |.p id b=>
  match J.get id with
  |some (.cells c _ _ _)=>
   match oO P t with
   |some true=>match sizeT P t with
    |some n=>(takeN c b n).map .agg
    |none=>none
   |some false=>c[b]?
   |none=>none
  |_=>none
 |.rp e b=>
  match oO P t with
  |some true=>match sizeT P t with
   |some n=>(takeN e.cells b n).map .agg
   |none=>none
  |some false=>e.cells[b]?
  |none=>none
 |_=>none
def EK(P:Program)(t:TypeId)(J:aA)(a v:AV):Option aA:=
 match a with
 |.p id b=>
  match J.get id with
  |some (.cells c e true d)=>
   if J.lock<=id/\sizeT P t=some v.cells.length/\v.cells.all AV.nU then
    (Ad c b v.cells).map λf=>J.put id (.cells f e true d)
   else none
  |_=>none
 |_=>none
def vX:AV->Option Int
 |.i _ n=>some n
 |_=>none
def AU(len:Nat)(a:Nat->Bool):Q4->Option Nat
 |none=>some len
 |some v=>match vX v with
  |some h=>if 0<=h/\a h.toNat=true then some h.toNat else none
  |none=>none
def Kq(h:Nat):Q4->Option Nat
 |none=>some 0
 |some v=>match vX v with
  |some l=>if 0<=l/\l<=h then some l.toNat else none
  |none=>none
def xM(len:Nat)(a:Nat->Bool)(low b:Q4):Option (Nat×Nat):=
 match AU len a b with
 |none=>none
 |some h=>match Kq h low with
  |none=>none
  |some l=>some (l,h)
def Ji(a:QP):Option Operand->Option Q4
 |none=>some none
 |some x=>(a x).map some
end
noncomputable section
variable[gY]
def bytesOf:Q3->Option Q0
 |[]=>some []
 |.i .u8 n::rest=>if 0<=n/\n<256 then(bytesOf rest).map (UInt8.ofNat n.toNat::·)else none
 |_::_=>none
def wC(s:Q0):Q3:=s.map λb=>.i .u8 b.toNat
def xq(a:AV):Wr:=a.toVal 4
def wJ(P:Program)(t:TypeId):Option (TypeId×Nat×Nat×Q3):=
 match P.underlying t with
 |some (.slice e)=>match P.info? e,y8 P e with
  |some i,some z=>if e≠0/\z.length=i.size then some (e,i.size,i.bytes,z)else none
  |_,_=>none
 |_=>none
def yZ(J:aA)(size:Nat):AV->Option (Nat×Q3)
 |.gu=>some (0,[])
 |.sl id off len _=>match J.get id with
  |some (.cells c _ _ _)=>(takeN c off (len*size)).map λr=>(len,r)
  |_=>none
 |.s x=>if size=1 then some (x.length,wC x)else none
 |.ro l=>if l.all (λa=>a.cells.length==size)=true then some (l.length,l.flatMap AV.cells)else none
 |_=>none
def FI(P:Program)(t:TypeId):Bool:=
 match P.underlying t with
 |some (.slice _)|some .string=>true
 |_=>false
def sliceLen:AV->Nat
 |.sl _ _ n _=>n
 |_=>0
def pG(e size bytes:Nat)(s:AV)(n:Nat)(new:Q3)(J:aA):Wc:=
 if size=0\/new.all AV.nU=false\/¬(2*(sliceLen s+n)*bytes<=2^48/\sliceLen s+n<=2^48)then none else
 match s with
 |.gu=>if n=0 then some (.gu,J)else some (.sl J.next 0 n none,J.new (.cells new e true true))
 |.sl id a len (some d)=>
  if len+n<=d then
   if n=0 then some (s,J)else
   match J.get id with
   |some (.cells c f true g)=>
    if J.lock<=id then
     (Ad c (a+len*size) new).map λh=>(.sl id a (len+n) (some d),J.put id (.cells h f true g))
    else none
   |_=>none
  else
   match J.get id with
   |some (.cells c _ _ _)=>(takeN c a (len*size)).map λb=>(.sl J.next 0 (len+n) none,J.new (.cells (b++new) e true true))
   |_=>none
 |.sl id a len none=>
  if n=0 then some (s,J)
  else if J.lock<=id then
   match J.get id with
   |some (.cells c f true true)=>if f=e then(takeN c a (len*size)).map λb=>(.sl J.next 0 (len+n) none,(J.kill id).new (.cells (b++new) e true true))else none
   |_=>none
  else none
 |.ro l=>if n=0 then some (.ro l,J)else none
 |_=>none
def Xm(P:Program)(a:Wm)(s x:AV)(J:aA):Wc:=
 match a.toList with
 |[t,c]=>
  match wJ P t,FI P c with
  |some (e,b,bytes,_),true=>
   match yZ J b x with
   |some (n,new)=>pG e b bytes s n new J
   |none=>none
  |_,_=>none
 |_=>none
def Rf(P:Program)(J:aA)(t:TypeId)(x:AV):Q4:=
 match P.underlying t,x with
 |some .string,.s s=>some (.i .i64 s.length)
 |some (.slice _),.gu=>some (.i .i64 0)
 |some (.slice _),.sl _ _ n _=>some (.i .i64 n)
 |some (.slice _),.ro l=>some (.i .i64 l.length)
 |some (.map _ _),.oU=>some (.i .i64 0)
 |some (.map _ _),.mp id=>match J.get id with
  |some (.map es)=>some (.i .i64 es.length)
  |_=>none
 |some (.array n _),_=>some (.i .i64 n)
 |_,_=>none
def Ri(P:Program)(t:TypeId)(len cap:AV)(J:aA):Wc:=
 match wJ P t,vX len,vX cap with
 |some (e,a,bytes,z),some l,some c=>
  if 0<=l/\l<=c/\bytes*c<=2^48/\c<=2^60 then
   some (.sl J.next 0 l.toNat (some c.toNat),J.new (.cells (if a=0 then[]else jv c.toNat z) e true false))
  else none
 |_,_,_=>none
def Ro(size:Nat)(es:Q3)(l h:Nat):Q4:=
 if h=l then some (.ro [])else
 match es[0]? with
 |some a=>if a.cells.length=size then some (.ro ((es.take h).drop l))else none
 |none=>none
def AY(P:Program)(t:TypeId)(J:aA)(x:AV)(lo hi:Q4):Q4:=
 match P.underlying t,x with
 |some .string,.s s=>(xM s.length (λh=>Nat.ble h s.length) lo hi).map λ(l,h)=>.s ((s.take h).drop l)
 |some (.slice e),.sl id b len d=>
  match sizeT P e,d with
  |some a,some c=>
   (xM len (λh=>Nat.ble h c) lo hi).bind λ(l,h)=>
    if c=l then some (.sl id b (h-l) (some 0))else some (.sl id (b+l*a) (h-l) (some (c-l)))
  |some a,none=>
   match J.get id with
   |some (.cells _ f _ true)=>if f=e then
     (xM len (λh=>Nat.ble h len) lo hi).bind λ(l,h)=>
      if l<len then some (.sl id (b+l*a) (h-l) none)else if l=0 then some (.sl id b (h-l) none)else if h=l then some (.ro [])else none
    else none
   |_=>none
  |none,_=>none
 |some (.slice e),.gu=>match sizeT P e with
  |some _=>(xM 0 (λh=>Nat.ble h 0) lo hi).map λ_=>.gu
  |none=>none
 |some (.slice e),.ro es=>match sizeT P e with
  |some a=>(xM es.length (λh=>Nat.ble h es.length) lo hi).bind λ(l,h)=>Ro a es l h
  |none=>none
 |some (.array n e),.p id b=>match sizeT P e with
  |some a=>(xM n (λh=>Nat.ble h n) lo hi).map λ(l,h)=>
    if n=l then .sl id b (h-l) (some 0)else .sl id (b+l*a) (h-l) (some (n-l))
  |none=>none
 |_,_=>none
def Q9(P:Program)(t:TypeId)(x:AV)(f:Nat):Q4:=
 match P.underlying t,x with
 |some (.struct b),.p id c=>
  match b[f]? with
  |some d=>match sizeT P d.type with
   |some n=>if n=0 then none else some (.p id (c+d.offset))
   |none=>none
  |none=>none
 |some (.struct b),.rp a c=>
  match b[f]? with
  |some d=>match sizeT P d.type with
   |some n=>if n=0 then none else some (.rp a (c+d.offset))
   |none=>none
  |none=>none
 |_,_=>none
def Q8(P:Program)(t:TypeId)(x:AV)(f:Nat):Q4:=
 match P.underlying t,x with
 |some (.struct a),.agg c=>
  match a[f]? with
  |some b=>Rn P b.type c b.offset
  |none=>none
 |_,_=>none
def yG(P:Program)(t:TypeId)(x d:AV):Q4:=
 match P.underlying t,x,vX d with
 |some (.slice e),.sl id c len _,some k=>
  match sizeT P e with
  |some b=>if 0<=k/\k<len then some (.p id (c+k.toNat*b))else none
  |none=>none
 |some (.array len e),.p id c,some k=>
  match sizeT P e with
  |some b=>if 0<=k/\k<len then some (.p id (c+k.toNat*b))else none
  |none=>none
 |some (.slice e),.ro l,some k=>
  match sizeT P e with
  |some b=>if 0<=k then match l[k.toNat]? with
   |some a=>if a.cells.length=b then some (.rp a 0)else none
   |none=>none
   else none
  |none=>none
 |some (.array len e),.rp a c,some k=>
  match sizeT P e with
  |some b=>if 0<=k/\k<len then some (.rp a (c+k.toNat*b))else none
  |none=>none
 |_,_,_=>none
def EJ(P:Program)(t:TypeId)(x b:AV):Q4:=
 match P.underlying t,x,vX b with
 |some .string,.s s,some k=>
  if 0<=k then match s[k.toNat]? with
   |some c=>some (.i .u8 c.toNat)
   |none=>none
  else none
 |some (.array len e),.agg d,some k=>
  match sizeT P e with
  |some a=>if 0<=k/\k<len then Rn P e d (k.toNat*a)else none
  |none=>none
 |_,_,_=>none
def yF(P:Program)(src dst:TypeId)(x:AV)(J:aA):Wc:=
 match P.underlying src,P.underlying dst,x with
 |some _,some (.int k),.i _ n=>some (.i k (k.wrap n),J)
 |some .string,some .string,.s s=>some (.s s,J)
 |some .string,some (.slice e),.s s=>
  match P.underlying e with
  |some (.int .u8)=>if e≠0/\sizeT P e=some 1 then some (.sl J.next 0 s.length none,J.new (.cells (wC s) e true true))else none
  |_=>none
 |some (.slice e),some .string,.gu=>
  match P.underlying e with
  |some (.int .u8)=>some (.s [],J)
  |_=>none
 |some (.slice e),some .string,.sl id a len _=>
  match P.underlying e,J.get id with
  |some (.int .u8),some (.cells c _ _ _)=>match takeN c a len with
   |some r=>(bytesOf r).map λb=>(.s b,J)
   |none=>none
  |_,_=>none
 |some (.slice e),some .string,.ro l=>
  match P.underlying e with
  |some (.int .u8)=>(bytesOf l).map λb=>(.s b,J)
  |_=>none
 |some (.pointer t),some .unsafePointer,.p id a=>
  match J.get id,sizeT P t with
  |some (.cells c d _ false),some n=>if d≠0/\a<c.length/\n≠0 then some (.p id a,J)else none
  |_,_=>none
 |some .unsafePointer,some (.pointer u),.p id a=>
  match J.get id,sizeT P u with
  |some (.cells c d _ false),some _=>if d≠0/\liesAt P P.depth d (c.length/P.cellsOf d) a u 1=true then some (.p id a,J)else none
  |_,_=>none
 |_,_,_=>none
def SN(e:BinOp)(a b c d:Int):Q4:=
 match e with
 |.lss=>if b<c then some (.b true)else if d<=a then some (.b false)else none
 |.leq=>if b<=c then some (.b true)else if d<a then some (.b false)else none
 |.gtr=>if d<a then some (.b true)else if b<=c then some (.b false)else none
 |.geq=>if d<=a then some (.b true)else if b<c then some (.b false)else none
 |.eql=>if b<c\/d<a then some (.b false)else none
 |.neq=>if b<c\/d<a then some (.b true)else none
 |_=>none
def tH(P:Program)(g:BinOp)(t:TypeId)(x y:Operand)(a b:AV):Q4:=
 match g,a,b with
 |.eql,.p id d,.p f c=>match P.underlying t with
  |some (.pointer e)=>match sizeT P e with
   |some n=>if id=f/\n≠0 then some (.b (d==c))else none
   |none=>none
  |_=>none
 |.neq,.p id d,.p f c=>match P.underlying t with
  |some (.pointer e)=>match sizeT P e with
   |some n=>if id=f/\n≠0 then some (.b (!(d==c)))else none
   |none=>none
  |_=>none
 |.eql,.p _ _,.jD|.eql,.jD,.p _ _=>match P.underlying t with
  |some (.pointer _)=>some (.b false)
  |_=>none
 |.neq,.p _ _,.jD|.neq,.jD,.p _ _=>match P.underlying t with
  |some (.pointer _)=>some (.b true)
  |_=>none
 |.eql,.ro (_::_),.gu|.eql,.gu,.ro (_::_)=>match P.underlying t with
  |some (.slice _)=>some (.b false)
  |_=>none
 |.neq,.ro (_::_),.gu|.neq,.gu,.ro (_::_)=>match P.underlying t with
  |some (.slice _)=>some (.b true)
  |_=>none
 |.eql,.rp _ _,.jD|.eql,.jD,.rp _ _=>match P.underlying t with
  |some (.pointer _)=>some (.b false)
  |_=>none
 |.neq,.rp _ _,.jD|.neq,.jD,.rp _ _=>match P.underlying t with
  |some (.pointer _)=>some (.b true)
  |_=>none
 |.eql,.sl ..,.gu|.eql,.gu,.sl ..=>match P.underlying t with
  |some (.slice _)=>some (.b false)
  |_=>none
 |.neq,.sl ..,.gu|.neq,.gu,.sl ..=>match P.underlying t with
  |some (.slice _)=>some (.b true)
  |_=>none
 |.eql,.jc _ _,.sH|.eql,.sH,.jc _ _=>match P.underlying t with
  |some (.interface _)=>some (.b false)
  |_=>none
 |.neq,.jc _ _,.sH|.neq,.sH,.jc _ _=>match P.underlying t with
  |some (.interface _)=>some (.b true)
  |_=>none
 |.eql,.mp _,.oU|.eql,.oU,.mp _=>match P.underlying t with
  |some (.map _ _)=>some (.b false)
  |_=>none
 |.neq,.mp _,.oU|.neq,.oU,.mp _=>match P.underlying t with
  |some (.map _ _)=>some (.b true)
  |_=>none
 |_,.z k lo hi,.i h n=>if k=h then SN g lo hi n n else none
 |_,.i k n,.z h lo hi=>if k=h then SN g n n lo hi else none
 |_,_,_=>
  match xq a,xq b with
  |some u,some v=>(qg P (do eqGuard g t x y u v;binOp g t u v)).bind (mF 4)
  |_,_=>none
def Zr:AV->AV->Option Bool
 |.i k a,.i c b=>if k=c then some (a==b)else none
 |.s a,.s b=>some (a==b)
 |.b a,.b b=>some (a==b)
 |.z k lo hi,.i c b=>if k=c/\(b<lo\/hi<b)then some false else none
 |_,_=>none
def IG(k:AV):X2->Nat->Option (Option (Nat×AV))
 |[],_=>some none
 |e::es,i=>match Zr k e.1 with
  |some true=>some (some (i,e.2))
  |some false=>IG k es (i+1)
  |none=>none
def TJ(P:Program)(t:TypeId)(k:AV):Bool:=
 match P.underlying t,k with
 |some (.int _),.i _ _|some (.int _),.z _ _ _|some .string,.s _|some .bool,.b _=>true
 |_,_=>false
def Rh(P:Program)(t:TypeId)(m k:AV)(ok:Bool)(J:aA):Q4:=
 match P.underlying t with
 |some (.map a b)=>
  match(match m with|.oU=>some []|.mp id=>(match J.get id with|some (.map es)=>some es|_=>none)|_=>none)with
  |some es=>
   if TJ P a k then
    match IG k es 0 with
    |some (some (_,v))=>some (if ok then .eG [v,.b true]else v)
    |some none=>
     match P.info? b with
     |some i=>match i.zero with
      |some z=>(mF 4 z).map λz=>if ok then .eG [z,.b false]else z
      |none=>none
     |none=>none
    |none=>none
   else none
  |none=>none
 |_=>none
def Rj(P:Program)(t:TypeId)(m k v:AV)(J:aA):Option aA:=
 match P.underlying t,m with
 |some (.map a _),.mp id=>
  match J.get id with
  |some (.map es)=>
   if J.lock<=id/\TJ P a k then
    match IG k es 0 with
    |some (some (i,_))=>some (J.put id (.map (es.set i (k,v))))
    |some none=>some (J.put id (.map (es++[(k,v)])))
    |none=>none
   else none
  |_=>none
 |_,_=>none
def I4(P:Program)(t:TypeId):Ww:=
 match P.underlying t with
 |some (.interface _)=>some true
 |some _=>some false
 |none=>none
def Rq(P:Program)(x:AV)(t:TypeId)(ok:Bool):Q4:=
 match I4 P t,x with
 |some false,.jc u v=>
  if u=t then some (if ok then .eG [v,.b true]else v)
  else if ok then match P.info? t with
   |some i=>match i.zero with
    |some z=>(mF 4 z).map λz=>.eG [z,.b false]
    |none=>none
   |none=>none
  else none
 |some false,.sH=>
  if ok then match P.info? t with
   |some i=>match i.zero with
    |some z=>(mF 4 z).map λz=>.eG [z,.b false]
    |none=>none
   |none=>none
  else none
 |_,_=>none
def Rl(it:AV)(J:aA):Wc:=
 match it with
 |.p id 0=>
  match J.get id with
  |some (.iter s pos)=>
   if J.lock<=id then
    if pos<s.length then
     let r:=Utf8.decode ⟨⟨s⟩⟩ pos
     some (.eG [.b true,.i .i64 pos,.i .i32 r.1],J.put id (.iter s (pos+r.2)))
    else some (.eG [.b false],J)
   else none
  |_=>none
 |_=>none
def Xo(P:Program)(b:Wm)(d x:AV)(J:aA):Wc:=
 match b[0]? with
 |some t=>
  match wJ P t,d with
  |some (_,a,_,_),.sl id f e _=>
   match yZ J a x,J.get id with
   |some (n,new),some (.cells c h true g)=>
    let k:=Nat.min n e
    if a=0 then none else
    if J.lock<=id/\new.all AV.nU then
     (Ad c f (new.take (k*a))).map λi=>(.i .i64 k,J.put id (.cells i h true g))
    else none
   |_,_=>none
  |some (_,a,_,_),.gu=>match yZ J a x with
   |some _=>some (.i .i64 0,J)
   |none=>none
  |_,_=>none
 |none=>none
def Xn(P:Program)(t:TypeId)(x:AV)(J:aA):Wc:=
 match P.underlying t,x with
 |some (.slice _),.gu=>some (.eG [],J)
 |some (.slice _),.ro []=>some (.eG [],J)
 |some (.slice e),.sl id a n _=>
  if n=0 then some (.eG [],J)else
  match y8 P e,J.get id with
  |some z,some (.cells c d true b)=>
   if J.lock<=id/\z.all AV.nU then
    (Ad c a (jv n z)).map λf=>(.eG [],J.put id (.cells f d true b))
   else none
  |_,_=>none
 |some (.map _ _),.oU=>some (.eG [],J)
 |some (.map _ _),.mp id=>match J.get id with
  |some (.map _)=>if J.lock<=id then some (.eG [],J.put id (.map []))else none
  |_=>none
 |_,_=>none
def Yc(m c:Nat):Bool:=match gY.nodes[m]?,gY.nodes[c]? with
 |some (.ci k a),some (.ci d b)=>Nat.beq (kc k) (kc d)&&!(IZ a b)
 |some (.cs a),some (.cs b)=>!(Bc a b)
 |_,_=>false
def Gn(n m:Nat):W7->Bool
 |[]=>false
 |p::l=>(bif p.2 then(match gY.nodes[p.1]? with
  |some (.bin .eql a b)=>Nat.beq n a&&Yc m b
  |_=>false)else false) ||Gn n m l
def EZ:BinOp->Option BinOp
 |.eql=>some .neq
 |.neq=>some .eql
 |.lss=>some .geq
 |.geq=>some .lss
 |.leq=>some .gtr
 |.gtr=>some .leq
 |_=>none
def KP(c n m:Nat):W7->Option Bool
 |[]=>none
 |p::l=>match gY.nodes[p.1]? with
  |some (.bin a b d)=>bif Nat.beq n b&&Nat.beq m d&&Nat.beq (uZ a) c then some p.2 else KP c n m l
  |_=>KP c n m l
def Qh(c:BinOp)(n m:Nat):Ww:=match EZ c with
 |some a=>(KP (uZ a) n m gY.dec).map λb=>!b
 |none=>none
def abm(x:Nd):Ww:=match x with
 |.bin .eql n m=>bif Gn n m gY.dec then some false else Qh .eql n m
 |.bin .neq n m=>bif Gn n m gY.dec then some true else Qh .neq n m
 |.bin a n m=>Qh a n m
 |_=>none
def kK(x:Nd):Q4:=
 match fG x with
 |some n=>match Yi n with
  |some b=>some (.b b)
  |none=>match abm x with
   |some b=>some (.b b)
   |none=>some (.nd n)
 |none=>none
def iU:AV->Option Nat
 |.nd n=>some n
 |.i k n=>fG (.ci k n)
 |.b x=>fG (.cb x)
 |.s x=>fG (.cs x)
 |.gu=>fG (.ml [])
 |_=>none
def nodesOf:Q3->Option Q2
 |[]=>some []
 |a::l=>match iU a,nodesOf l with
  |some n,some r=>some (n::r)
  |_,_=>none
def EL:AV->Option Nat
 |.agg l=>match nodesOf l with
  |some a=>fG (.mk a)
  |none=>none
 |_=>none
def vw:Nat->Nat->Nat->Bool
 |0,m,n=>Nat.beq m n
 |f+1,m,n=>Nat.beq m n ||match gY.nodes[m]? with
  |some (.upd _ _ a _ _)=>vw f a n
  |some (.same a _)=>vw f a n
  |_=>false
def elemsOf(agg:Bool)(size:Nat):Nat->List AV->Option Q2
 |0,_=>some []
 |n+1,cs=>match(if agg then EL (.agg (cs.take size))else(cs.head?).bind iU),elemsOf agg size n (cs.drop size)with
  |some a,some r=>some (a::r)
  |_,_=>none
def listOf(P:Program)(J:aA)(e:TypeId):AV->Option Nat
 |.nd n=>some n
 |.gu=>fG (.ml [])
 |.sv id n=>match J.get id with
  |some (.vec m a _)=>if Nat.beq e a&&vw 100 m n then some m else none
  |_=>none
 |.sl id off len _=>match J.get id,sizeT P e,oO P e with
  |some (.cells c a _ _),some size,some agg=>if Nat.beq e a&&((agg&&Nat.blt 0 size) ||Nat.beq size 1)then match takeN c off (len*size)with
   |some cs=>match elemsOf agg size len cs with
    |some b=>fG (.ml b)
    |none=>none
   |none=>none
   else none
  |_,_,_=>none
 |_=>none
def aun(a:AV):Bool:=
 match a with
 |.nd _|.rx _ _|.sv _ _|.pv _ _ _|.pd _ _=>true
 |_=>false
def aaV(P:Program)(t:TypeId):QR:=
 match P.underlying t with
 |some (.int _)=>some 0
 |some .string=>some 1
 |some .bool=>some 2
 |_=>none
def MB(P:Program):List Field->Nat->Option Q2
 |[],_=>some []
 |f::fs,k=>if !(f.name == "_")&&Nat.beq f.offset k then match aaV P f.type,MB P fs (k+1)with
  |some a,some r=>some (a::r)
  |_,_=>none
  else none
def VO(P:Program)(c:BinOp)(t:TypeId)(a b:AV):Q4:=
 match P.underlying t with
 |some (.int _)|some .string=>match iU a,iU b with
  |some x,some y=>kK (.bin c x y)
  |_,_=>none
 |some .bool=>match iU a,iU b with
  |some x,some y=>kK (.EO c x y)
  |_,_=>none
 |some (.struct d)=>if !(P.stoodInHeld t)&&!(P.eqGuardType P.depth t)then match MB P d.toList 0,EL a,EL b with
   |some e,some x,some y=>kK (.EP c e x y)
   |_,_,_=>none
  else none
 |some (.pointer _)=>match c,a,b with
  |.eql,.rx _ _,.jD|.eql,.jD,.rx _ _=>some (.b false)
  |.neq,.rx _ _,.jD|.neq,.jD,.rx _ _=>some (.b true)
  |.eql,.pv _ _ _,.jD|.eql,.jD,.pv _ _ _=>some (.b false)
  |.neq,.pv _ _ _,.jD|.neq,.jD,.pv _ _ _=>some (.b true)
  |_,_,_=>none
 |_=>none
def MS(b:UnOp)(a:AV):Q4:=
 match a with
 |.nd n=>kK (.un b n)
 |_=>none
def VP(P:Program)(src dst:TypeId)(x:AV)(J:aA):Wc:=
 match P.underlying src,P.underlying dst,x with
 |some _,some (.int k),.nd n=>(kK (.conv k n)).map (·,J)
 |some .string,some .string,.nd n=>(kK (.GI n)).map (·,J)
 |some .string,some (.slice e),.nd n=>
  match P.underlying e with
  |some (.int .u8)=>if e≠0/\sizeT P e=some 1 then match fG (.bytes n)with
    |some m=>some (.sv J.next m,J.new (.vec m e false))
    |none=>none
   else none
  |_=>none
 |some (.slice e),some .string,x=>
  match P.underlying e with
  |some (.int .u8)=>match listOf P J e x with
    |some m=>(kK (.str m)).map (·,J)
    |none=>none
  |_=>none
 |_,_,_=>none
def abK(P:Program)(t:TypeId)(x:AV):Q4:=
 match P.underlying t,x with
 |some .string,.nd n=>kK (.slen n)
 |some (.slice _),.nd n=>kK (.len n)
 |some (.slice _),.sv _ n=>kK (.len n)
 |_,_=>none
def dB(a:Q4):Q4:=
 match a with
 |some (.nd n)=>match Yi n with
  |some b=>some (.b b)
  |none=>none
 |x=>x
def I9(i:Nat):Nat->Nat->Option AV
 |0,_=>none
 |c+1,j=>match kK (.zQ i j)with
  |some (.b true)=>some (.i .i64 j)
  |some (.b false)=>I9 i c (j+1)
  |some (.nd m)=>match dB (some (.nd m))with
   |some (.b true)=>some (.i .i64 j)
   |some (.b false)=>I9 i c (j+1)
   |_=>none
  |_=>none
def VT(P:Program)(t:TypeId)(x a:AV):Q4:=
 match P.underlying t with
 |some .string=>match iU x,iU a with
  |some n,some i=>kK (.GK n i)
  |_,_=>none
 |some (.array len _)=>match iU a with
  |some i=>match I9 i len 0 with
   |some k=>EJ P t x k
   |none=>none
  |none=>none
 |_=>none
def Ob:Q4->Option Nat
 |none=>fG (.ci .i64 0)
 |some a=>iU a
def RP(x:Nd):Q4->Option Nat
 |none=>fG x
 |some a=>iU a
def Qp(P:Program)(t:TypeId)(x:AV)(lo hi:Q4):Q4:=
 match P.underlying t with
 |some .string=>match iU x with
  |some n=>match Ob lo,RP (.slen n) hi with
   |some l,some h=>kK (.GL n l h)
   |_,_=>none
  |none=>none
 |some (.slice e)=>match x,sizeT P e with
  |.nd n,some a=>match Ob lo,RP (.len n) hi with
   |some l,some h=>kK (.DU a n l h)
   |_,_=>none
  |_,_=>none
 |_=>none
def V3(P:Program)(t:TypeId)(J:aA)(x:AV)(lo hi:Q4):Wc:=
 match P.underlying t,x with
 |some (.slice e),.sv id n=>match J.get id,sizeT P e with
  |some (.vec m b f),some a=>if Nat.beq e b&&vw 100 m n&&Nat.ble J.lock id then
    match lo with
    |none=>match Ob none,RP (.len m) hi with
     |some z,some h=>(fG (.DU a m z h)).map λk=>(.sv id k,J.put id (.vec k b f))
     |_,_=>none
    |some _=>(Qp P t (.nd m) lo hi).map (·,J.kill id)
   else none
  |_,_=>none
 |_,_=>none
def VQ(P:Program)(t:TypeId)(x:AV)(f:Nat):Q4:=
 match P.underlying t with
 |some (.struct a)=>
  match a[f]? with
  |some c=>match sizeT P c.type with
   |some n=>if n=0 then none else match x with
    |.rx m b=>some (.rx m (b+c.offset))
    |.pv id m b=>some (.pv id m (b+c.offset))
    |_=>none
   |none=>none
  |none=>none
 |_=>none
def VU(P:Program)(J:aA)(t:TypeId)(x b:AV):Q4:=
 match P.underlying t with
 |some (.slice e)=>match sizeT P e,iU b with
  |some a,some i=>match x with
   |.nd n=>(fG (.at a n i)).map λm=>.rx m 0
   |.sv id n=>match J.get id with
    |some (.vec _ c _)=>if Nat.beq e c then(fG (.idx n i)).map λm=>.pv id m 0 else none
    |_=>none
   |.sl _ _ len _=>match I9 i len 0 with
    |some k=>yG P t x k
    |none=>none
   |_=>none
  |_,_=>none
 |some (.array len _)=>match iU b with
  |some i=>match I9 i len 0 with
   |some k=>yG P t x k
   |none=>none
  |none=>none
 |_=>none
def Io(m:Nat):Nat->Nat->Option Q3
 |_,0=>some []
 |off,n+1=>match kK (.cell off m),Io m (off+1) n with
  |some a,some r=>some (a::r)
  |_,_=>none
def Qo(P:Program)(t:TypeId)(m off:Nat):Q4:=
 match oO P t with
 |some true=>match sizeT P t with
  |some n=>(Io m off n).map .agg
  |none=>none
 |some false=>kK (.cell off m)
 |none=>none
def VW(P:Program)(t:TypeId)(J:aA)(a:AV):Q4:=
 match a with
 |.rx m b=>Qo P t m b
 |.pv id i b=>match J.get id with
  |some (.vec m d _)=>match sizeT P d with
   |some c=>match fG (.at c m i)with
    |some x=>Qo P t x b
    |none=>none
   |none=>none
  |_=>none
 |_=>none
def Pq(P:Program)(b:TypeId)(k:AV):Option (Nat×Wd):=
 match P.underlying b,iU k with
 |some (.int a),some n=>match fG (.ci a 0)with
  |some z=>(fG (.bin .eql n z)).map λ_=>(n,some a)
  |none=>none
 |some .string,some n=>match fG (.cs [])with
  |some z=>(fG (.bin .eql n z)).map λ_=>(n,none)
  |none=>none
 |_,_=>none
def Zt(n:Nat)(e:AV):Ww:=
 match iU e with
 |some m=>match(kK (.bin .eql n m))with
  |some (.b b)=>some b
  |some (.nd j)=>match dB (some (.nd j))with
   |some (.b b)=>some b
   |_=>none
  |_=>none
 |none=>none
def La(n:Nat):X2->Nat->Option (Option (Nat×AV))
 |[],_=>some none
 |e::es,i=>match Zt n e.1 with
  |some true=>some (some (i,e.2))
  |some false=>La n es (i+1)
  |none=>none
def Qw(P:Program)(a:TypeId)(v:AV):Option (Nat×QR):=
 match oO P a with
 |some true=>match EL v,sizeT P a with
  |some n,some k=>if Nat.beq v.cells.length k then some (n,some k)else none
  |_,_=>none
 |some false=>(iU v).map (·,none)
 |none=>none
def LK:Wd->Option IntKind->Bool
 |none,none=>true
 |some a,some b=>Nat.beq (kc a) (kc b)
 |_,_=>false
def Qq:QR->Option Nat->Bool
 |none,none=>true
 |some a,some b=>Nat.beq a b
 |_,_=>false
def QA(P:Program)(a:TypeId):Q4:=
 match P.info? a with
 |some i=>match i.zero with
  |some z=>mF 4 z
  |none=>none
 |none=>none
def VX(P:Program)(t:TypeId)(m k:AV)(ok:Bool)(J:aA):Q4:=
 match P.underlying t,m with
 |some (.map f a),.mp id=>
  match Pq P f k,J.get id with
  |some (n,_),some (.map es)=>match La n es 0 with
   |some (some (_,v))=>some (if ok then .eG [v,.b true]else v)
   |some none=>(QA P a).map λz=>if ok then .eG [z,.b false]else z
   |none=>none
  |some (n,c),some (.pmap es)=>
   if LK c none then match La n (es.map λe=>(AV.s e.1,e.2)) 0 with
    |some (some (_,v))=>some (if ok then .eG [v,.b true]else v)
    |some none=>(QA P a).map λz=>if ok then .eG [z,.b false]else z
    |none=>none
   else none
  |some (n,c),some (.smap j h i)=>
   if LK c h then match(QA P a).bind (Qw P a)with
    |some (z,d)=>if Qq i d then match(fG (.FU z j n)).bind λg=>Qo P a g 0 with
     |some v=>if ok then match kK (.FV j n)with
       |some b=>some (.eG [v,b])
       |none=>none
      else some v
     |none=>none
     else none
    |none=>none
   else none
  |_,_=>none
 |_,_=>none
def VZ(P:Program)(t:TypeId)(m k v:AV)(J:aA):Option aA:=
 match P.underlying t,m with
 |some (.map e f),.mp id=>
  if Nat.ble J.lock id then
   match Pq P e k,Qw P f v,J.get id with
   |some (n,a),some (u,b),some (.map [])=>match fG (.ml [])with
    |some j=>(fG (.BK j n u)).map λc=>J.put id (.smap c a b)
    |none=>none
   |some (n,a),some (u,b),some (.smap j g d)=>if LK a g&&Qq b d then(fG (.BK j n u)).map λc=>J.put id (.smap c a b)else none
   |_,_,_=>none
  else none
 |_,_=>none
def mapArg(v:AV):Bool:=match v with
 |.nd n=>(match gY.nodes[n]? with
  |some (.len _)=>true
  |_=>false)
 |v=>(vX v).isSome
def V4(P:Program)(t:TypeId)(J:aA)(a v:AV):Option aA:=
 match a with
 |.pv id i c=>match J.get id with
  |some (.vec m d f)=>
   if J.lock<=id/\sizeT P t=some v.cells.length then
    match sizeT P d,nodesOf v.cells with
    |some b,some e=>match fG (.upd b c m i e)with
     |some g=>some (J.put id (.vec g d f))
     |none=>none
    |_,_=>none
   else none
  |_=>none
 |_=>none
def abI(P:Program)(g:Wm)(s x:AV)(J:aA):Wc:=
 match g.toList with
 |[t,i]=>
  match wJ P t with
  |some (e,d,bytes,_)=>
   if d=0 then none else
   match(match P.underlying i with
    |some .string=>if d=1 then match iU x with
      |some n=>fG (.bytes n)
      |none=>none
     else none
    |some (.slice _)=>listOf P J e x
    |_=>none)with
   |none=>none
   |some b=>
    match s with
    |.gu=>match fG (.ml [])with
     |some a=>(fG (.app d bytes a b)).map λm=>(.sv J.next m,J.new (.vec m e true))
     |none=>none
    |.sv id n=>match J.get id with
     |some (.vec a h f)=>if Nat.beq h e&&vw 100 a n&&Nat.ble J.lock id then(fG (.app d bytes a b)).map λm=>(.sv J.next m,(J.kill id).new (.vec m e f))else none
     |_=>none
    |.sl id 0 0 (some 0)=>match J.get id with
     |some (.cells [] h true false)=>if Nat.beq h e&&Nat.ble J.lock id then match fG (.ml [])with
      |some a=>(fG (.app d bytes a b)).map λm=>(.sv J.next m,(J.kill id).new (.vec m e false))
      |none=>none
      else none
     |_=>none
    |.sl id 0 len none=>match J.get id with
     |some (.cells c h true true)=>if Nat.beq h e&&Nat.ble J.lock id&&Nat.beq c.length (len*d)then match listOf P J e (.sl id 0 len none)with
      |some a=>(fG (.app d bytes a b)).map λm=>(.sv J.next m,(J.kill id).new (.vec m e false))
      |none=>none
      else none
     |_=>none
    |_=>none
  |none=>none
 |_=>none
def UH(P:Program)(e:TypeId)(size len:Nat)(cs:Q3):QR:=
 if cs.any aun then
  match oO P e with
  |some a=>if((a&&Nat.blt 0 size) ||Nat.beq size 1)&&Nat.blt 0 len&&Nat.beq cs.length (len*size)then match elemsOf a size len cs with
   |some b=>fG (.ml b)
   |none=>none
   else none
  |none=>none
 else none
def UJ(P:Program)(J:aA)(e:TypeId)(size len:Nat)(cs:Q3):Q4×aA:=
 match UH P e size len cs with
 |some m=>(some (.sv J.next m),J.new (.vec m e false))
 |none=>(some (.sl J.next 0 len (some len)),J.new (.cells cs e true false))
def VY(P:Program)(t:TypeId)(len cap:AV)(J:aA):Wc:=
 match P.underlying t with
 |some (.slice d)=>match wJ P t,oO P d with
  |some (e,a,bytes,z),some b=>
   if a=0 then none else
   match(if b then EL (.agg z)else(z.head?).bind iU),iU len,iU cap with
   |some f,some l,some c=>(fG (.rep a bytes f l c)).map λm=>(.sv J.next m,J.new (.vec m e false))
   |_,_,_=>none
  |_,_=>none
 |_=>none
def JC(P:Program)(b:Builtin)(a:Wm)(args:Q3)(J:aA):W2:=
 match b,args with
 |.len,[x]=>match a[0]? with
  |some t=>(abK P t x).map λv=>(some v,J)
  |none=>none
 |.append,[s,x]=>(abI P a s x J).map λr=>(some r.1,r.2)
 |.min,[x,y]=>match iU x,iU y with
  |some m,some n=>(kK (.mm false m n)).map λv=>(some v,J)
  |_,_=>none
 |.max,[x,y]=>match iU x,iU y with
  |some m,some n=>(kK (.mm true m n)).map λv=>(some v,J)
  |_,_=>none
 |.unsafeSliceData,[.sv id n]=>match J.get id with
  |some (.vec m _ true)=>if vw 100 m n then some (some (.pd id n),J)else none
  |_=>none
 |.unsafeString,[.pd id n,.nd k]=>
  match a.toList with
  |[t,_]=>
   match P.underlying t,J.get id with
   |some (.pointer e),some (.vec m c _)=>
    if c=e/\e≠0/\P.cellsOf e=1/\J.lock<=id then
     match gY.nodes[k]? with
     |some (.len d)=>if vw 100 m n&&vw 100 m d then(kK (.str m)).map λv=>(some v,J.kill id)else none
     |_=>none
    else none
   |_,_=>none
  |_=>none
 |_,_=>none
def Rk(P:Program)(a:String)(J:aA):AV->Option (FuncId×AV)
 |.jc t v=>
  match P.info? t,P.underlying t with
  |some i,some d=>match i.methods.find? (·.name==a)with
   |some m=>match m.path.toList,m.func with
    |[],some (f,b)=>match d,b with
     |.pointer _,true=>some (f,v)
     |.pointer e,false=>match v with
      |.p id off=>(vY P e J (.p id off)).map λx=>(f,x)
      |_=>none
     |_,true=>none
     |_,false=>some (f,v)
    |_,_=>none
   |none=>none
  |_,_=>none
 |_=>none
abbrev Caller:=FuncId->List AV->aA->Option (AV×aA)
def eH(J:aA):Q4->Option (Q4×aA):=Option.map λv=>(some v,J)
def sK:Wc->Option (Q4×aA):=Option.map λ(v,J)=>(some v,J)
def MH:Option aA->Option (Q4×aA):=Option.map λJ=>(none,J)
def Hw(P:Program)(b:Builtin)(a:Wm)(args:Q3)(J:aA):W2:=
 match b,args with
 |.len,[x]=>match a[0]? with
  |some t=>eH J (Rf P J t x)
  |none=>none
 |.append,[s,x]=>sK (Xm P a s x J)
 |.copy,[d,x]=>sK (Xo P a d x J)
 |.clear,[x]=>match a[0]? with
  |some t=>sK (Xn P t x J)
  |none=>none
 |.cap,[x]=>match a[0]? with
  |some t=>match P.underlying t,x with
   |some (.slice _),.gu=>eH J (some (.i .i64 0))
   |some (.slice _),.sl _ _ _ (some c)=>eH J (some (.i .i64 c))
   |_,_=>none
  |none=>none
 |.unsafeSliceData,[.gu]=>eH J (some .jD)
 |.unsafeSliceData,[.sl id f n g]=>if n=0/\(g=none\/g=some 0)then none else eH J (some (.p id f))
 |.unsafeString,[x,.i .i64 n]=>
  match a.toList with
  |[t,_]=>
   if n=0 then(match x with
    |.jD=>eH J (some (.s []))
    |.p _ _=>eH J (some (.s []))
    |_=>none)
   else match x with
   |.p id f=>match P.underlying t,J.get id with
    |some (.pointer e),some (.cells c i true h)=>
     if i=e/\e≠0/\P.cellsOf e=1/\0<n/\n<2^62/\J.lock<=id then
      match takeN c f n.toNat with
      |some r=>match bytesOf r with
       |some b=>some (some (.s b),J.put id (.cells c i false h))
       |none=>none
      |none=>none
     else none
    |_,_=>none
   |_=>none
  |_=>none
 |.min,[x,y]=>match xq x,xq y with
  |some u,some v=>eH J ((qg P (Builtin.min_ #[] 0 #[u,v])).bind (mF 4))
  |_,_=>none
 |.max,[x,y]=>match xq x,xq y with
  |some u,some v=>eH J ((qg P (Builtin.max_ #[] 0 #[u,v])).bind (mF 4))
  |_,_=>none
 |.min,[x,y,z]=>match xq x,xq y,xq z with
  |some u,some v,some t=>eH J ((qg P (Builtin.min_ #[] 0 #[u,v,t])).bind (mF 4))
  |_,_,_=>none
 |_,_=>none
def abJ(b:Builtin)(args:Q3):Bool:=
 match b,args with
 |.append,.gu::_=>!(gY.nodes.isEmpty)
 |_,_=>false
def kL{α:Type}(a:Option α)(b:Unit->Option α):Option α:=
 match a with
 |some x=>some x
 |none=>b ()
def vg{α:Type}{a:Option α}{b:Unit->Option α}{x:α}(h:kL a b=some x):a=some x\/b ()=some x:=by
 unfold kL at h;split at h
 ·exact .inl h
 ·exact .inr h
def uO(P:Program)(call:Caller)(o:Oper)(d:QP)(J:aA):W2:=
 match o.op with
 |.move x|.assign x=>eH J (d x)
 |.pick c a b=>match dB (d c)with
  |some (.b t)=>eH J (if t then d a else d b)
  |_=>none
 |.alloc t=>(y8 P t).map λz=>(some (.p J.next 0),J.new (.cells z t true false))
 |.box t x=>(d x).map λv=>(some (.p J.next 0),J.new (.cells v.cells t true false))
 |.build t j=>match Fe d j.toList with
  |some D=>eH J (Q7 P t D)
  |none=>none
 |.buildSlice t len j=>
  match wJ P t,Fe d j.toList with
  |some (e,g,_,z),some D=>
   if len*g>2^24 then none else
   match AQ (λi=>some (i*g,g)) (if len*g=0 then[]else jv len z) D with
   |some q=>some (UJ P J e g len q)
   |none=>none
  |_,_=>none
 |.load t a=>match d a with
  |some a=>eH J (kL (vY P t J a) λ_=>VW P t J a)
  |none=>none
 |.store t a x=>match d a,d x with
  |some a,some v=>MH (kL (EK P t J a v) λ_=>V4 P t J a v)
  |_,_=>none
 |.nilCheck x=>match d x with
  |some (.p id n)=>eH J (some (.p id n))
  |some (.rp a n)=>eH J (some (.rp a n))
  |some (.rx m n)=>eH J (some (.rx m n))
  |some (.pv id m n)=>eH J (some (.pv id m n))
  |some (.fn f E q)=>eH J (some (.fn f E q))
  |_=>none
 |.binOp w t x y _=>match d x,d y with
  |some a,some b=>eH J (kL (tH P w t x y a b) λ_=>VO P w t a b)
  |_,_=>none
 |.unOp w _ x=>match d x with
  |some a=>match xq a with
   |some u=>eH J ((qg P (Op.unary w u)).bind (mF 4))
   |none=>eH J (MS w a)
  |none=>none
 |.convert src A x=>match d x with
  |some a=>sK (kL (yF P src A a J) λ_=>VP P src A a J)
  |none=>none
 |.makeInterface t x=>match d x,I4 P t with
  |some a,some false=>eH J (some (.jc t a))
  |_,_=>none
 |.makeFunc (.func f) first p=>match Bo d first.toList,Bo d p.toList with
   |some E,some q=>eH J (some (.fn f E q))
   |_,_=>none
 |.makeMap t r=>match r with
  |none=>some (some (.mp J.next),J.new (.map []))
  |some h=>match d h,P.underlying t with
   |some v,some (.map _ _)=>if mapArg v then some (some (.mp J.next),J.new (.map []))else none
   |_,_=>none
 |.makeSlice t l c=>match d l,d c with
  |some l,some c=>sK (kL (Ri P t l c J) λ_=>VY P t l c J)
  |_,_=>none
 |.slice t x lo hi none=>match d x,Ji d lo,Ji d hi with
  |some v,some lo,some hi=>kL (eH J (kL (AY P t J v lo hi) λ_=>Qp P t v lo hi)) λ_=>sK (V3 P t J v lo hi)
  |_,_,_=>none
 |.fieldAddr t x f=>match d x with
  |some a=>eH J (kL (Q9 P t a f) λ_=>VQ P t a f)
  |none=>none
 |.field t x f=>match d x with
  |some a=>eH J (Q8 P t a f)
  |none=>none
 |.indexAddr t x F=>match d x,d F with
  |some a,some k=>eH J (kL (yG P t a k) λ_=>VU P J t a k)
  |_,_=>none
 |.index t x F=>match d x,d F with
  |some a,some k=>eH J (kL (EJ P t a k) λ_=>VT P t a k)
  |_,_=>none
 |.lookup t m k ok=>match d m,d k with
  |some m,some k=>eH J (kL (Rh P t m k ok J) λ_=>VX P t m k ok J)
  |_,_=>none
 |.mapUpdate t m k v|.insert t m k v=>match d m,d k,d v with
  |some m,some k,some v=>MH (kL (Rj P t m k v J) λ_=>VZ P t m k v J)
  |_,_,_=>none
 |.range t x=>match P.underlying t,d x with
  |some .string,some (.s s)=>some (some (.p J.next 0),J.new (.iter s 0))
  |some (.map _ _),some .oU=>some (some (.p J.next 0),J.new (.iterM none))
  |some (.map _ _),some (.mp id)=>match J.get id with
   |some (.map _)=>some (some (.p J.next 0),J.new (.iterM (some id)))
   |_=>none
  |_,_=>none
 |.next G true=>match d G with
  |some a=>sK (Rl a J)
  |none=>none
 |.next G false=>match d G with
  |some (.p id 0)=>match J.get id with
   |some (.iterM none)=>some (some (.eG [.b false]),J)
   |some (.iterM (some m))=>match J.get m with
    |some (.map [])=>some (some (.eG [.b false]),J)
    |_=>none
   |_=>none
  |_=>none
 |.typeAssert x _ t ok=>match d x with
  |some a=>eH J (Rq P a t ok)
  |none=>none
 |.extract x k=>match d x with
  |some (.eG l)=>eH J l[k]?
  |_=>none
 |.call c=>match Bo d c.args.toList with
  |some args=>
   match c.callee with
   |.builtin b=>bif abJ b args then kL (JC P b c.argTypes args J) λ_=>Hw P b c.argTypes args J else kL (Hw P b c.argTypes args J) λ_=>JC P b c.argTypes args J
   |.value f=>match d f with
    |some (.fn f H p)=>sK (call f (H++args++p) J)
    |_=>none
   |.invoke r B=>match(d r).bind (Rk P B J)with
    |some (f,x)=>sK (call f (x::args) J)
    |none=>none
  |none=>none
 |_=>none
def Yv(c:BinOp)(k:IntKind)(a b:Int):Q4:=
 match c with
 |.add=>some (.i k (k.wrap (a+b)))
 |.sub=>some (.i k (k.wrap (a-b)))
 |.mul=>some (.i k (k.wrap (a*b)))
 |.eql=>some (.b (a==b))
 |.neq=>some (.b (a !=b))
 |.lss=>some (.b (decide (a<b)))
 |.leq=>some (.b (decide (a<=b)))
 |.gtr=>some (.b (decide (a>b)))
 |.geq=>some (.b (decide (a>=b)))
 |_=>none
def Yy(c:BinOp)(a b:Q0):Q4:=
 match c with
 |.add=>if a.length+b.length<=9223372036854775807 then some (.s (a++b))else none
 |.eql=>some (.b (a==b))
 |.neq=>some (.b (!(a==b)))
 |.lss=>some (.b (Op.bytesLess a b))
 |.leq=>some (.b (Op.bytesLess a b ||a==b))
 |.gtr=>some (.b (!(Op.bytesLess a b ||a==b)))
 |.geq=>some (.b (!(Op.bytesLess a b)))
 |_=>none
def Yu(P:Program)(c:BinOp)(t:TypeId)(x y:Operand)(a b:AV):Q4:=
 match a with
 |.i k m=>match b with
  |.i d n=>if k=d then match Yv c k m n with
    |some r=>some r
    |none=>tH P c t x y a b
   else tH P c t x y a b
  |_=>tH P c t x y a b
 |.s u=>match b with
  |.s v=>match Yy c u v with
   |some r=>some r
   |none=>tH P c t x y a b
  |_=>tH P c t x y a b
 |_=>tH P c t x y a b
def toList_mk(l:Q0):(⟨⟨l⟩⟩:ByteArray).toList=l:=by rw[ByteArray.toList_eq]
def aqS{P:Program}{a:BinOp}{t:TypeId}{x y:Operand}{k:IntKind}{m n:Int}{r:AV}(h:Yv a k m n=some r):tH P a t x y (.i k m) (.i k n)=some r:=by
 have b:∀v:Value,(do eqGuard a t x y (.int k m) (.int k n);binOp a t (.int k m) (.int k n):Sem Value)=.pure v->mF 4 v=some r->tH P a t x y (.i k m) (.i k n)=some r:=by
  intro v c d;have:tH P a t x y (.i k m) (.i k n)=(qg P (do eqGuard a t x y (.int k m) (.int k n);binOp a t (.int k m) (.int k n):Sem Value)).bind (mF 4):=by cases a<;>rfl
  rw[this,c];exact d
 cases a<;>simp only[Yv,reduceCtorEq,aZ]at h<;>subst h
 all_goals refine b _ (by simp only[eqGuard,binOp,ne_eq,not_true_eq_false,if_false,Op.intArith,Op.intCmp];rfl) rfl
def adg(a b:Q0):((⟨⟨a⟩⟩:ByteArray)++⟨⟨b⟩⟩)=⟨⟨a++b⟩⟩:=by apply ByteArray.ext;rw[ByteArray.data_append];simp
def arn{P:Program}{a:BinOp}{t:TypeId}{x y:Operand}{u v:Q0}{r:AV}(h:Yy a u v=some r):tH P a t x y (.s u) (.s v)=some r:=by
 have b:∀z:Value,(do eqGuard a t x y (.string ⟨⟨u⟩⟩) (.string ⟨⟨v⟩⟩);binOp a t (.string ⟨⟨u⟩⟩) (.string ⟨⟨v⟩⟩):Sem Value)=.pure z->mF 4 z=some r->tH P a t x y (.s u) (.s v)=some r:=by
  intro z c d;have:tH P a t x y (.s u) (.s v)=(qg P (do eqGuard a t x y (.string ⟨⟨u⟩⟩) (.string ⟨⟨v⟩⟩);binOp a t (.string ⟨⟨u⟩⟩) (.string ⟨⟨v⟩⟩):Sem Value)).bind (mF 4):=by cases a<;>rfl
  rw[this,c];exact d
 cases a<;>simp only[Yy,reduceCtorEq,aZ]at h
 case add=>
  split at h
  ·next e=>
   cases h;have:¬(((⟨⟨u⟩⟩:ByteArray).size+(⟨⟨v⟩⟩:ByteArray).size:Nat):Int)>IntKind.i64.max:=by
    show ¬((u.length+v.length:Nat):Int)>9223372036854775807
    omega
   exact b (.string ⟨⟨u++v⟩⟩) (by simp only[eqGuard,binOp,Op.stringOp,ah this,adg];rfl) rfl
  ·cases h
 all_goals subst h
 all_goals refine b _ (by simp only[eqGuard,binOp,Op.stringOp,toList_mk];rfl) rfl
def aqR(P:Program)(d:BinOp)(t:TypeId)(x y:Operand)(a b:AV):Yu P d t x y a b=tH P d t x y a b:=by
 unfold Yu;split
 ·split
  ·split
   ·next e=>
    subst e;split
    ·next r c=>exact(aqS c).symm
    ·rfl
   ·rfl
  ·rfl
 ·split
  ·split
   ·next r c=>exact(arn c).symm
   ·rfl
  ·rfl
 ·rfl
def fUn(P:Program)(J:aA)(b:UnOp)(a:AV):W2:=
 match b with
 |.not=>match a with
  |.b x=>some (some (.b (!x)),J)
  |_=>match xq a with
   |some u=>eH J ((qg P (Op.unary b u)).bind (mF 4))
   |none=>eH J (MS b a)
 |_=>match xq a with
  |some u=>eH J ((qg P (Op.unary b u)).bind (mF 4))
  |none=>eH J (MS b a)
def aeZ(_P:Program)(_call:Caller)(a:QP)(J:aA)(x:Operand):W2:=
 eH J (a x)
def aqT(_P:Program)(_call:Caller)(d:QP)(J:aA)(c:Operand)(a:Operand)(b:Operand):W2:=
 match dB (d c)with
  |some (.b t)=>eH J (if t then d a else d b)
  |_=>none
def aq3(P:Program)(_call:Caller)(_ev:QP)(J:aA)(t:TypeId):W2:=
 (y8 P t).map λz=>(some (.p J.next 0),J.new (.cells z t true false))
def ard(_P:Program)(_call:Caller)(a:QP)(J:aA)(t:TypeId)(x:Operand):W2:=
 (a x).map λv=>(some (.p J.next 0),J.new (.cells v.cells t true false))
def arf(P:Program)(_call:Caller)(b:QP)(J:aA)(t:TypeId)(a:Array (Nat×Operand)):W2:=
 match Fe b a.toList with
  |some c=>eH J (Q7 P t c)
  |none=>none
def arh(P:Program)(_call:Caller)(c:QP)(J:aA)(t:TypeId)(len:Nat)(b:Array (Nat×Operand)):W2:=
     match wJ P t,Fe c b.toList with
    |some (e,a,_,z),some d=>
     if len*a>2^24 then none else
     match AQ (λi=>some (i*a,a)) (if len*a=0 then[]else jv len z) d with
     |some f=>some (UJ P J e a len f)
     |none=>none
    |_,_=>none
def ari(P:Program)(_call:Caller)(b:QP)(J:aA)(t:TypeId)(a:Operand):W2:=
 match b a with
  |some a=>eH J (kL (vY P t J a) λ_=>VW P t J a)
  |none=>none
def arj(P:Program)(_call:Caller)(b:QP)(J:aA)(t:TypeId)(a:Operand)(x:Operand):W2:=
 match b a,b x with
  |some a,some v=>MH (kL (EK P t J a v) λ_=>V4 P t J a v)
  |_,_=>none
def ark(_P:Program)(_call:Caller)(c:QP)(J:aA)(x:Operand):W2:=
 match c x with
  |some (.p id b)=>eH J (some (.p id b))
  |some (.rp a b)=>eH J (some (.rp a b))
  |some (.rx m b)=>eH J (some (.rx m b))
  |some (.pv id m b)=>eH J (some (.pv id m b))
  |some (.fn f d e)=>eH J (some (.fn f d e))
  |_=>none
def Yx(P:Program)(_call:Caller)(c:QP)(J:aA)(d:BinOp)(t:TypeId)(x:Operand)(y:Operand):W2:=
 match c x,c y with
  |some a,some b=>eH J (kL (Yu P d t x y a b) λ_=>VO P d t a b)
  |_,_=>none
def Yw(P:Program)(_call:Caller)(b:QP)(J:aA)(c:UnOp)(x:Operand):W2:=
 match b x with
  |some a=>fUn P J c a
  |none=>none
def aqU(P:Program)(_call:Caller)(b:QP)(J:aA)(src:TypeId)(dst:TypeId)(x:Operand):W2:=
 match b x with
  |some a=>sK (kL (yF P src dst a J) λ_=>VP P src dst a J)
  |none=>none
def aqV(P:Program)(_call:Caller)(b:QP)(J:aA)(t:TypeId)(x:Operand):W2:=
 match b x,I4 P t with
  |some a,some false=>eH J (some (.jc t a))
  |_,_=>none
def aqW(_P:Program)(_call:Caller)(b:QP)(J:aA)(f:FuncId)(first:Array Operand)(a:Array Operand):W2:=
 match Bo b first.toList,Bo b a.toList with
  |some c,some d=>eH J (some (.fn f c d))
  |_,_=>none
def aqX(P:Program)(_call:Caller)(a:QP)(J:aA)(t:TypeId)(r:Option Operand):W2:=
 match r with
  |none=>some (some (.mp J.next),J.new (.map []))
  |some h=>match a h,P.underlying t with
   |some v,some (.map _ _)=>if mapArg v then some (some (.mp J.next),J.new (.map []))else none
   |_,_=>none
def aqY(P:Program)(_call:Caller)(a:QP)(J:aA)(t:TypeId)(l:Operand)(c:Operand):W2:=
 match a l,a c with
  |some l,some c=>sK (kL (Ri P t l c J) λ_=>VY P t l c J)
  |_,_=>none
def aqZ(P:Program)(_call:Caller)(a:QP)(J:aA)(t:TypeId)(x:Operand)(lo:Option Operand)(hi:Option Operand):W2:=
 match a x,Ji a lo,Ji a hi with
  |some v,some lo,some hi=>kL (eH J (kL (AY P t J v lo hi) λ_=>Qp P t v lo hi)) λ_=>sK (V3 P t J v lo hi)
  |_,_,_=>none
def aq0(P:Program)(_call:Caller)(b:QP)(J:aA)(t:TypeId)(x:Operand)(f:Nat):W2:=
 match b x with
  |some a=>eH J (kL (Q9 P t a f) λ_=>VQ P t a f)
  |none=>none
def aq1(P:Program)(_call:Caller)(b:QP)(J:aA)(t:TypeId)(x:Operand)(f:Nat):W2:=
 match b x with
  |some a=>eH J (Q8 P t a f)
  |none=>none
def aq2(P:Program)(_call:Caller)(b:QP)(J:aA)(t:TypeId)(x:Operand)(c:Operand):W2:=
 match b x,b c with
  |some a,some k=>eH J (kL (yG P t a k) λ_=>VU P J t a k)
  |_,_=>none
def aq4(P:Program)(_call:Caller)(b:QP)(J:aA)(t:TypeId)(x:Operand)(c:Operand):W2:=
 match b x,b c with
  |some a,some k=>eH J (kL (EJ P t a k) λ_=>VT P t a k)
  |_,_=>none
def aq5(P:Program)(_call:Caller)(a:QP)(J:aA)(t:TypeId)(m:Operand)(k:Operand)(ok:Bool):W2:=
 match a m,a k with
  |some m,some k=>eH J (kL (Rh P t m k ok J) λ_=>VX P t m k ok J)
  |_,_=>none
def ae0(P:Program)(_call:Caller)(a:QP)(J:aA)(t:TypeId)(m:Operand)(k:Operand)(v:Operand):W2:=
 match a m,a k,a v with
  |some m,some k,some v=>MH (kL (Rj P t m k v J) λ_=>VZ P t m k v J)
  |_,_,_=>none
def aq6(P:Program)(_call:Caller)(a:QP)(J:aA)(t:TypeId)(x:Operand):W2:=
 match P.underlying t,a x with
  |some .string,some (.s s)=>some (some (.p J.next 0),J.new (.iter s 0))
  |some (.map _ _),some .oU=>some (some (.p J.next 0),J.new (.iterM none))
  |some (.map _ _),some (.mp id)=>match J.get id with
   |some (.map _)=>some (some (.p J.next 0),J.new (.iterM (some id)))
   |_=>none
  |_,_=>none
def aq7(_P:Program)(_call:Caller)(b:QP)(J:aA)(it:Operand):W2:=
 match b it with
  |some a=>sK (Rl a J)
  |none=>none
def aq8(_P:Program)(_call:Caller)(a:QP)(J:aA)(it:Operand):W2:=
 match a it with
  |some (.p id 0)=>match J.get id with
   |some (.iterM none)=>some (some (.eG [.b false]),J)
   |some (.iterM (some m))=>match J.get m with
    |some (.map [])=>some (some (.eG [.b false]),J)
    |_=>none
   |_=>none
  |_=>none
def aq9(P:Program)(_call:Caller)(b:QP)(J:aA)(x:Operand)(t:TypeId)(ok:Bool):W2:=
 match b x with
  |some a=>eH J (Rq P a t ok)
  |none=>none
def ara(_P:Program)(_call:Caller)(a:QP)(J:aA)(x:Operand)(k:Nat):W2:=
 match a x with
  |some (.eG l)=>eH J l[k]?
  |_=>none
def arb(P:Program)(call:Caller)(e:QP)(J:aA)(c:Call):W2:=
 match Bo e c.args.toList with
  |some args=>
   match c.callee with
   |.builtin b=>bif abJ b args then kL (JC P b c.argTypes args J) λ_=>Hw P b c.argTypes args J else kL (Hw P b c.argTypes args J) λ_=>JC P b c.argTypes args J
   |.value f=>match e f with
    |some (.fn f g a)=>sK (call f (g++args++a) J)
    |_=>none
   |.invoke r d=>match(e r).bind (Rk P d J)with
    |some (f,x)=>sK (call f (x::args) J)
    |none=>none
  |none=>none
structure OpW where
 f:Program->Caller->(QP)->aA->Option (Q4×aA)
def opF(o:Op):OpW:=
 Op.casesOn (motive:=λ_=>OpW) o
  (λx=>⟨λP call d J=>aeZ P call d J x⟩)
  (λx=>⟨λP call d J=>aeZ P call d J x⟩)
  (λc a b=>⟨λP call d J=>aqT P call d J c a b⟩)
  (λt=>⟨λP call d J=>aq3 P call d J t⟩)
  (λt x=>⟨λP call d J=>ard P call d J t x⟩)
  (λt e=>⟨λP call d J=>arf P call d J t e⟩)
  (λt len e=>⟨λP call d J=>arh P call d J t len e⟩)
  (λt m k v=>⟨λP call d J=>ae0 P call d J t m k v⟩)
  (λt a=>⟨λP call d J=>ari P call d J t a⟩)
  (λt a x=>⟨λP call d J=>arj P call d J t a x⟩)
  (λ_=>⟨λ_P _call _ev _J=>none⟩)
  (λ_=>⟨λ_P _call _ev _J=>none⟩)
  (λx=>⟨λP call d J=>ark P call d J x⟩)
  (λh t x y _=>⟨λP call d J=>Yx P call d J h t x y⟩)
  (λh _ x=>⟨λP call d J=>Yw P call d J h x⟩)
  (λsrc i x=>⟨λP call d J=>aqU P call d J src i x⟩)
  (λ_ _=>⟨λ_P _call _ev _J=>none⟩)
  (λt x=>⟨λP call d J=>aqV P call d J t x⟩)
  (λfn first g=>⟨λP call d J=>match fn with|.func f=>aqW P call d J f first g|_=>none⟩)
  (λt r=>⟨λP call d J=>aqX P call d J t r⟩)
  (λ_ _=>⟨λ_P _call _ev _J=>none⟩)
  (λt l c=>⟨λP call d J=>aqY P call d J t l c⟩)
  (λt x lo hi p=>⟨λP call d J=>match p with|none=>aqZ P call d J t x lo hi|some _=>none⟩)
  (λt x f=>⟨λP call d J=>aq0 P call d J t x f⟩)
  (λt x f=>⟨λP call d J=>aq1 P call d J t x f⟩)
  (λt x j=>⟨λP call d J=>aq2 P call d J t x j⟩)
  (λt x j=>⟨λP call d J=>aq4 P call d J t x j⟩)
  (λt m k ok=>⟨λP call d J=>aq5 P call d J t m k ok⟩)
  (λt m k v=>⟨λP call d J=>ae0 P call d J t m k v⟩)
  (λ_ _ _=>⟨λ_P _call _ev _J=>none⟩)
  (λ_ _ _ _=>⟨λ_P _call _ev _J=>none⟩)
  (λt x=>⟨λP call d J=>aq6 P call d J t x⟩)
  (λn b=>⟨λP call d J=>bif b then aq7 P call d J n else aq8 P call d J n⟩)
  (λ_=>⟨λ_P _call _ev _J=>none⟩)
  (λx _ t ok=>⟨λP call d J=>aq9 P call d J x t ok⟩)
  (λx k=>⟨λP call d J=>ara P call d J x k⟩)
  (λc=>⟨λP call d J=>arb P call d J c⟩)
  (λ_=>⟨λ_P _call _ev _J=>none⟩)
  (λ_=>⟨λ_P _call _ev _J=>none⟩)
  (λ_=>⟨λ_P _call _ev _J=>none⟩)
  (λ_ _=>⟨λ_P _call _ev _J=>none⟩)
  (λ_ _ _=>⟨λ_P _call _ev _J=>none⟩)
  (λ_ _=>⟨λ_P _call _ev _J=>none⟩)
def zH(P:Program)(call:Caller)(o:Oper)(a:QP)(J:aA):W2:=(opF o.op).f P call a J
def aro(P:Program)(J:aA)(b:UnOp)(a:AV):fUn P J b a=match xq a with
 |some u=>eH J ((qg P (Op.unary b u)).bind (mF 4))
 |none=>eH J (MS b a):=by
 cases b<;>first|rfl|skip
 cases a<;>rfl
def Dq(P:Program)(call:Caller)(o:Oper)(c:QP)(J:aA):zH P call o c J=uO P call o c J:=by
 obtain⟨f,a,e,pos,d,guard⟩:=o;cases a with
 |binOp a t x y _=>
  show Yx P call c J a t x y=_
  simp only[Yx,aqR,uO]
 |unOp a _ x=>
  show Yw P call c J a x=_
  simp only[Yw,aro,uO]
 |slice t x lo hi g=>cases g<;>rfl
 |makeFunc fn _ _=>cases fn<;>rfl
 |next h b=>cases b<;>rfl
 |_=>rfl
def JO(o:Oper)(c:W4)(a:bn):Ww:=
 match o.guard with
 |none=>some true
 |some (j,b)=>
  match c[j]? with
  |some q=>match q.dst with
   |some d=>match dB (a.t.get d)with
    |some (.b x)=>some (x==b)
    |some (.eG _)=>some false
    |_=>none
   |none=>none
  |none=>none
def Xt(P:Program)(call:Caller)(b:W4)(i:Nat)(a:bn)(J:aA):Option (bn×aA):=
 match b[i]? with
 |none=>none
 |some o=>
  match JO o b a with
  |none=>none
  |some false=>(a.put o.dst (some (.eG []))).map (·,J)
  |some true=>
   match zH P call o a.eval J with
   |none=>none
   |some (v,c)=>(a.put o.dst v).map (·,c)
def Kr(P:Program)(call:Caller)(b:W4):Q2->bn->aA->Option (bn×aA)
 |[],a,J=>some (a,J)
 |i::rest,a,J=>
  match Xt P call b i a J with
  |some (c,J')=>Kr P call b rest c J'
  |none=>none
inductive eU where
 |normal
 |exit (id:Nat)
 |ret
abbrev Wa:=Option (eU×bn×aA)
def AX(P:Program)(J:aA)(a:bn):List ResultVar->Option Q3
 |[]=>some []
 |.tmp t::rs=>match a.t.get t,AX P J a rs with
  |some v,some r=>some (v::r)
  |_,_=>none
 |.cell t ty::rs=>match(a.t.get t).bind (vY P ty J),AX P J a rs with
  |some v,some r=>some (v::r)
  |_,_=>none
def JG:Q3->AV
 |[v]=>v
 |l=>.eG l
def zu:Q3->Nat->Tr AV->Tr AV
 |[],_,t=>t
 |v::vs,k,t=>zu vs (k+1) (t.set k (some v))
abbrev Ar:=W4->bn->aA->Option (bn×aA)
abbrev xJ:=FuncId->Option (Q3->aA->Option (AV×aA))
def Ik(P:Program)(d:xJ)(run:Code->bn->aA->Option (eU×bn×aA)):Caller:=λf args J=>
 match d f with
 |some g=>g args J
 |none=>
  match P.funcs[f]? with
  |none=>none
  |some fn=>match fn.body with
   |none=>none
   |some c=>
    match run c {t:=zu args 0 .nil,n:=max args.length fn.ntmps,gn:=P.globals.size} J with
    |some (.normal,b,a)|some (.ret,b,a)=>(AX P a b fn.results.toList).map λl=>(JG l,a)
    |_=>none
def tV(P:Program)(i:Caller->Ar)(h:xJ)(run:Code->bn->aA->Option (eU×bn×aA))(c:Code)(a:bn)(J:aA):Wa:=
 match c with
 |.skip=>some (.normal,a,J)
 |.region _ d false=>(Kr P (Ik P h run) d (List.range d.size) a J).map λ(a,J)=>(.normal,a,J)
 |.region _ d true=>(i (Ik P h run) d a J).map λ(a,J)=>(.normal,a,J)
 |.seq x y=>
  match run x a J with
  |some (.normal,e,f)=>run y e f
  |r=>r
 |.cond x y z=>
  match dB (a.eval x)with
  |some (.b t)=>run (if t then y else z) a J
  |_=>none
 |.block id b=>
  match run b a J with
  |some (.exit g,e,f)=>if g=id then some (.normal,e,f)else some (.exit g,e,f)
  |r=>r
 |.loop b=>
  match run b a J with
  |some (.normal,e,f)=>run (.loop b) e f
  |r=>r
 |.exit id=>some (.exit id,a,J)
 |.ret=>some (.ret,a,J)
 |_=>none
structure zi where
 f:Program->(Caller->Ar)->xJ->(Code->bn->aA->Option (eU×bn×aA))->bn->aA->Option (eU×bn×aA)
def alA:zi:=⟨λ_ _ _ _ a J=>some (.normal,a,J)⟩
def alx(b:W4)(d:Bool):zi:=bif d then⟨λP e c run a J=>(e (Ik P c run) b a J).map λ(a,J)=>(.normal,a,J)⟩
 else⟨λP _ c run a J=>(Kr P (Ik P c run) b (List.range b.size) a J).map λ(a,J)=>(.normal,a,J)⟩
def alz(x y:Code):zi:=⟨λ_ _ _ run a J=>match run x a J with
    |some (.normal,b,c)=>run y b c
    |r=>r⟩
def als(x:Operand)(y z:Code):zi:=⟨λ_ _ _ run a J=>match dB (a.eval x)with
    |some (.b t)=>run (if t then y else z) a J
    |_=>none⟩
def alr(id:Nat)(b:Code):zi:=⟨λ_ _ _ run a J=>match run b a J with
    |some (.exit c,d,e)=>if c=id then some (.normal,d,e)else some (.exit c,d,e)
    |r=>r⟩
def alv(b:Code):zi:=⟨λ_ _ _ run a J=>match run b a J with
    |some (.normal,c,d)=>run (.loop b) c d
    |r=>r⟩
def alu(id:Nat):zi:=⟨λ_ _ _ _ a J=>some (.exit id,a,J)⟩
def aly:zi:=⟨λ_ _ _ _ a J=>some (.ret,a,J)⟩
def Ox:zi:=⟨λ_ _ _ _ _ _=>none⟩
def codeF(c:Code):zi:=
 Code.casesOn (motive:=λ_=>zi) c
  alA
  (λ_ a d=>alx a d)
  (λx y=>alz x y)
  (λx y z=>als x y z)
  (λid b=>alr id b)
  (λb=>alv b)
  (λ_ _ _ _=>Ox)
  (λid=>alu id)
  (λ_=>Ox)
  (λ_=>Ox)
  (λ_=>Ox)
  aly
  (λ_=>Ox)
def codeF_eq(P:Program)(b:Caller->Ar)(e:xJ)(run:Code->bn->aA->Option (eU×bn×aA))(c:Code)(a:bn)(J:aA):(codeF c).f P b e run a J=tV P b e run c a J:=by
 cases c with
 |region id f d=>cases d<;>rfl
 |_=>rfl
def EI(P:Program)(b:Caller->Ar)(d:xJ)(n:Nat):Code->bn->aA->Option (eU×bn×aA):=
 Nat.rec (motive:=λ_=>Code->bn->aA->Option (eU×bn×aA)) (λ_ _ _=>none) (λ_ run c a J=>(codeF c).f P b d run a J) n
def ac5(P:Program)(b:Caller->Ar)(d:xJ)(c:Code)(a:bn)(J:aA):EI P b d 0 c a J=none:=rfl
def vW(P:Program)(b:Caller->Ar)(d:xJ)(n:Nat)(c:Code)(a:bn)(J:aA):EI P b d (n+1) c a J=tV P b d (EI P b d n) c a J:=codeF_eq P b d _ c a J
def ac4(P:Program)(b:Caller->Ar)(a:xJ)(n:Nat):Caller:=Ik P a (EI P b a n)
end
noncomputable section
variable[aI]
def Ko{H:Env}:∀{l:Q3}{vs:Q6},aF H l vs↔l.length=vs.length/\∀(k:Nat) a x,l[k]? =some a->vs[k]? =some x->VR H a x
 |[],vs=>by
  simp only[aF];constructor
  ·rintro rfl;simp
  ·rintro⟨h,_⟩;cases vs with
   |nil=>rfl
   |cons _ _=>simp at h
 |a::l,vs=>by
  simp only[aF];constructor
  ·rintro⟨x,xs,rfl,h1,g⟩
   have e:=(Ko (l:=l) (vs:=xs)).1 g;refine⟨by simp[e.1],?_⟩;intro k b y c d;cases k with
   |zero=>simp at c d;subst c;subst d;exact h1
   |succ k=>simp at c d;exact e.2 k b y c d
  ·rintro⟨f,h⟩
   cases vs with
   |nil=>simp at f
   |cons x xs=>refine⟨x,xs,rfl,h 0 a x (by simp) (by simp),(Ko (l:=l) (vs:=xs)).2 ⟨by simpa using f,?_⟩⟩;intro k b y c d;exact h (k+1) b y (by simpa using c) (by simpa using d)
def aF.length{H:Env}{l:Q3}{vs:Q6}(h:aF H l vs):l.length=vs.length:=(Ko.1 h).1
def aF.at{H:Env}{l:Q3}{vs:Q6}(h:aF H l vs){k:Nat}{a:AV}(b:l[k]? =some a):∃x,vs[k]? =some x/\VR H a x:=by
 have c:=Ko.1 h;obtain⟨d,rfl⟩:=fB.1 b;have:k<vs.length:=by omega
 exact⟨vs[k],bP this,c.2 k _ _ b (bP this)⟩
def aF.of{H:Env}{l:Q3}{vs:Q6}(c:l.length=vs.length)(h:∀(k:Nat) a,l[k]? =some a->∃x,vs[k]? =some x/\VR H a x):aF H l vs:=
 Ko.2 ⟨c,λk a x d e=>by obtain⟨y,b,f⟩:=h k a d;rw[e]at b;cases b;exact f⟩
def aF.append{H:Env}{l c:Q3}{vs b:Q6}(h:aF H l vs)(d:aF H c b):aF H (l++c) (vs++b):=by
 induction l generalizing vs with
 |nil=>simp only[aF]at h;subst h;simpa using d
 |cons a l e=>simp only[aF]at h;obtain⟨x,f,rfl,g,i⟩:=h;exact⟨x,f++b,rfl,g,e i⟩
def aF.take{H:Env}{l:Q3}{vs:Q6}(h:aF H l vs)(n:Nat):aF H (l.take n) (vs.take n):=by
 induction n generalizing l vs with
 |zero=>simp[aF]
 |succ n b=>cases l with
  |nil=>simp only[aF]at h;subst h;simp[aF]
  |cons a l=>simp only[aF]at h;obtain⟨x,c,rfl,d,e⟩:=h;exact⟨x,c.take n,by simp,d,b e⟩
def aF.drop{H:Env}{l:Q3}{vs:Q6}(h:aF H l vs)(n:Nat):aF H (l.drop n) (vs.drop n):=by
 induction n generalizing l vs with
 |zero=>simpa using h
 |succ n b=>cases l with
  |nil=>simp only[aF]at h;subst h;simp[aF]
  |cons a l=>simp only[aF]at h;obtain⟨x,d,rfl,e,c⟩:=h;simpa using b c
def aF.cons{H:Env}{a:AV}{l:Q3}{x:Value}{vs:Q6}(h:VR H a x)(b:aF H l vs):aF H (a::l) (x::vs):=⟨x,vs,rfl,h,b⟩
structure Env.le(H H':Env):Prop where
 pl:∀id q,H id=some q->H' id=some q
 ro:∀b o,H.ro b=some o->H'.ro b=some o
 gh:∀id,H.gh id=true->H'.gh id=true
def Env.le.refl(H:Env):H.le H:=⟨λ_ _ h=>h,λ_ _ h=>h,λ_ h=>h⟩
def Env.le.trans{a b c:Env}(h:a.le b)(d:b.le c):a.le c:=⟨λid q e=>d.pl id q (h.pl id q e),λb o f=>d.ro b o (h.ro b o f),λid e=>d.gh id (h.gh id e)⟩
def Env.has(H:Env)(id:Nat):Prop:=(∃q,H id=some q)\/H.gh id=true
def Env.has.mono{H H':Env}{id:Nat}(h:H.has id)(a:H.le H'):H'.has id:=h.elim (λ⟨q,b⟩=>.inl ⟨q,a.pl _ _ b⟩) λc=>.inr (a.gh _ c)
mutual
def GR.mono{ro ro':Qf}(h:∀b o,ro b=some o->ro' b=some o):∀(a:GV)(v:Value),GR ro a v->GR ro' a v
 |.b _,_,d=>by simpa only[GR]using d
 |.i _ _,_,d=>by simpa only[GR]using d
 |.s _,_,d=>by simpa only[GR]using d
 |.g l,_,d=>by simp only[GR]at d⊢;obtain⟨x,e,h1⟩:=d;exact⟨x,e,aP.mono h l x h1⟩
 |.l j,_,d=>by
  simp only[GR]at d⊢;rcases d with d|⟨k,g,c,i,m,e,n,h1,p,q⟩
  ·exact .inl d
  exact .inr ⟨k,g,c,i,m,e,n,aP.mono h j i h1,p,λr=>by obtain⟨s,f,t,u,w⟩:=q r;exact⟨s,f,t,h _ _ u,w⟩⟩
def aP.mono{ro ro':Qf}(h:∀b o,ro b=some o->ro' b=some o):∀(l:Q1)(vs:Q6),aP ro l vs->aP ro' l vs
 |[],_,c=>by simpa only[aP]using c
 |a::l,_,c=>by simp only[aP]at c⊢;obtain⟨x,xs,e,h1,d⟩:=c;exact⟨x,xs,e,GR.mono h a x h1,aP.mono h l xs d⟩
end
mutual
def VR.mono{H H':Env}(h:H.le H'):∀(a:AV)(v:Value),VR H a v->VR H' a v
 |.b _,_,b=>by simpa only[VR]using b
 |.i _ _,_,b=>by simpa only[VR]using b
 |.s _,_,b=>by simpa only[VR]using b
 |.jD,_,b=>by simpa only[VR]using b
 |.p _ _,_,b=>by simp only[VR]at b⊢;obtain⟨q,m,e⟩:=b;exact⟨q,h.pl _ _ m,e⟩
 |.gu,_,b=>by simpa only[VR]using b
 |.sl _ _ _ _,_,b=>by simp only[VR]at b⊢;obtain⟨q,m,e⟩:=b;exact⟨q,h.pl _ _ m,e⟩
 |.oU,_,b=>by simpa only[VR]using b
 |.mp _,_,b=>by simp only[VR]at b⊢;obtain⟨q,m,e⟩:=b;exact⟨q,h.pl _ _ m,e⟩
 |.yR,_,b=>by simpa only[VR]using b
 |.fn _ B o,_,b=>by simp only[VR]at b⊢;obtain⟨z,A,e,d,f⟩:=b;exact⟨z,A,e,aF.mono h B z d,aF.mono h o A f⟩
 |.sH,_,b=>by simpa only[VR]using b
 |.jc _ a,_,b=>by simp only[VR]at b⊢;obtain⟨x,e,d⟩:=b;exact⟨x,e,VR.mono h a x d⟩
 |.agg l,_,b=>by simp only[VR]at b⊢;obtain⟨x,e,d⟩:=b;exact⟨x,e,aF.mono h l x d⟩
 |.eG l,_,b=>by simp only[VR]at b⊢;obtain⟨x,e,d⟩:=b;exact⟨x,e,aF.mono h l x d⟩
 |.z _ _ _,_,b=>by simpa only[VR]using b
 |.ro l,_,b=>by
  simp only[VR]at b⊢;rcases b with b|⟨s,w,c,r,D,e,E,d,f,n⟩
  ·exact .inl b
  refine .inr ?_;exact⟨s,w,c,r,D,e,E,aF.mono h l r d,f,λy=>by obtain⟨o,j,t,u,F⟩:=n y;exact⟨o,j,t,h.ro _ _ u,F⟩⟩
 |.rp a _,_,b=>by simp only[VR]at b⊢;obtain⟨s,base,o,j,t,x,d,f,n⟩:=b;exact⟨s,base,o,j,t,x,h.ro _ _ d,VR.mono h a x f,n⟩
 |.nd _,_,b=>by simp only[VR]at b⊢;obtain⟨g,d,f,n⟩:=b;exact⟨g,d,f,GR.mono h.ro _ _ n⟩
 |.rx _ _,_,b=>by simp only[VR]at b⊢;obtain⟨g,s,base,o,j,t,x,d,f,n,u⟩:=b;exact⟨g,s,base,o,j,t,x,d,h.ro _ _ f,GR.mono h.ro _ _ n,u⟩
 |.sv _ _,_,b=>by
  simp only[VR]at b⊢;obtain⟨r,d,⟨q,m,f⟩|⟨G,f⟩⟩:=b
  ·exact⟨r,d,.inl ⟨q,h.pl _ _ m,f⟩⟩
  ·exact⟨r,d,.inr ⟨h.gh _ G,f⟩⟩
 |.pv _ _ _,_,b=>by simp only[VR]at b⊢;obtain⟨q,k,i,m,f⟩:=b;exact⟨q,k,i,h.pl _ _ m,f⟩
 |.pd _ _,_,b=>by simp only[VR]at b⊢;obtain⟨r,p,d,f,n⟩:=b;exact⟨r,p,d,f,λy=>by obtain⟨q,m,u⟩:=n y;exact⟨q,h.pl _ _ m,u⟩⟩
def aF.mono{H H':Env}(h:H.le H'):∀(l:Q3)(vs:Q6),aF H l vs->aF H' l vs
 |[],_,b=>by simpa only[aF]using b
 |a::l,_,b=>by simp only[aF]at b⊢;obtain⟨x,xs,e,h1,c⟩:=b;exact⟨x,xs,e,VR.mono h a x h1,aF.mono h l xs c⟩
end
def L6{α β:Type}{f:α->Option β}:∀{l:List α}{r:List β},uq f l=some r->l.length=r.length/\∀(k:Nat) x,l[k]? =some x->∃y,r[k]? =some y/\f x=some y
 |[],r,h=>by simp[uq]at h;subst h;simp
 |x::xs,r,h=>by
  simp only[uq]at h;split at h
  ·cases h
  ·rename_i y d
   split at h
   ·cases h
   ·rename_i i b
    cases h;have c:=L6 b;refine⟨by simp[c.1],λk z a=>?_⟩;cases k with
    |zero=>simp at a;subst a;exact⟨y,by simp,d⟩
    |succ k=>simp at a;obtain⟨u,e,g⟩:=c.2 k z a;exact⟨u,by simpa using e,g⟩
def ajN{H:Env}:∀(n:Nat)(a:AV)(v:Value),a.toVal n=some v->VR H a v:=by
 intro n;induction n with
 |zero=>intro a v h;simp[AV.toVal]at h
 |succ n f=>
  intro a v h;have b:∀(l:Q3)(e:Q6),uq (AV.toVal n) l=some e->aF H l e:=λl e g=>by have:=L6 g;exact aF.of this.1 λk a i=>by obtain⟨y,j,m⟩:=this.2 k a i;exact⟨y,j,f _ _ m⟩
  cases a<;>simp only[AV.toVal,bg,aZ]at h<;>simp only[VR]<;>first|exact h.symm|(cases h;done)|skip
  case jc t a=>obtain⟨y,c,d⟩:=h;exact⟨_,d.symm,f _ _ c⟩
  case agg l=>obtain⟨y,c,d⟩:=h;exact⟨_,d.symm,b _ _ c⟩
  case eG l=>obtain⟨y,c,d⟩:=h;exact⟨_,d.symm,b _ _ c⟩
def ajO{H:Env}:∀(n:Nat)(a:AV)(v x:Value),a.toVal n=some v->VR H a x->x=v:=by
 intro n;induction n with
 |zero=>intro a v x h;simp[AV.toVal]at h
 |succ n j=>
  intro a v x h e;have f:∀(l:Q3)(g i:Q6),uq (AV.toVal n) l=some g->aF H l i->i=g:=λl g i p m=>by
   have b:=L6 p;have d:=Ko.1 m;apply J4;intro k;by_cases o:k<l.length
   ·obtain⟨y,q,r⟩:=b.2 k _ (bP o);obtain⟨z,c,s⟩:=m.at (bP o);rw[q,c,j _ _ _ r s]
   ·rw[sZ (by omega),sZ (by omega)]
  cases a<;>simp only[AV.toVal,bg,aZ]at h<;>simp only[VR]at e<;>first|exact e.trans h|(cases h;done)|skip
  case jc t a=>obtain⟨y,b,d⟩:=h;obtain⟨z,rfl,c⟩:=e;rw[<-d,j _ _ _ b c]
  case agg l=>obtain⟨y,b,d⟩:=h;obtain⟨z,rfl,c⟩:=e;rw[<-d,f _ _ _ b c]
  case eG l=>obtain⟨y,b,d⟩:=h;obtain⟨z,rfl,c⟩:=e;rw[<-d,f _ _ _ b c]
def DX{H:Env}:∀(n:Nat)(v:Value)(a:AV),mF n v=some a->VR H a v:=by
 intro n;induction n with
 |zero=>intro v a h;simp[mF]at h
 |succ n f=>
  intro v a h;have c:∀(e:Q6)(l:Q3),uq (mF n) e=some l->aF H l e:=λe l j=>by
   have b:=L6 j;refine aF.of b.1.symm λk a g=>?_;have d:k<e.length:=by have:=(fB.1 g).1;omega
   obtain⟨y,i,m⟩:=b.2 k _ (bP d);rw[g]at i;cases i;exact⟨_,bP d,f _ _ m⟩
  unfold mF at h;split at h;all_goals try (cases h;done)
  all_goals try (cases h;simp only[VR];done)
  ·simp only[bg]at h;obtain⟨y,b,rfl⟩:=h;simp only[VR];exact⟨_,rfl,f _ _ b⟩
  ·simp only[bg]at h;obtain⟨y,b,rfl⟩:=h;simp only[VR];exact⟨_,rfl,c _ _ b⟩
  ·simp only[bg]at h;obtain⟨y,b,rfl⟩:=h;simp only[VR];exact⟨_,rfl,c _ _ b⟩
def BQ{α:Type}{P:Program}{s:Sem α}{a:α}(h:qg P s=some a)(w:World):s.run P w=.ok a w:=by
 induction s with
 |pure x=>simp[qg]at h;subst h;rfl
 |program k b=>exact b P h
 |mark m k b=>exact b h
 |_=>simp[qg]at h
omit [aI] in
def Tr.afi{α:Type}:∀p:WK,(Tr.nil:Tr α).wO p=none
 |[]=>rfl
 |b::p=>by
  show Tr.wO p (bif b then Tr.nil else Tr.nil)=none
  cases b<;>exact Tr.afi p
omit [aI] in
@[simp] theorem Tr.get_nil{α:Type}(m:Nat):(Tr.nil:Tr α).get m=none:=Tr.afi _
omit [aI] in
def Tr.YK{α:Type}(x:Option α):∀(p q:WK)(t:Tr α),(t.Jz x p).wO q=if q=p then x else t.wO q
 |[],[],t=>rfl
 |[],c::q,t=>by rw[ah (by simp)];rfl
 |b::p,[],t=>by rw[ah (by simp)];cases b<;>rfl
 |b::p,c::q,t=>by
  have h1:(t.Jz x (b::p))=bif b then .nd t.val (t.DT.Jz x p) t.Ec else .nd t.val t.DT (t.Ec.Jz x p):=rfl
  have a:∀u:Tr α,u.wO (c::q)=(bif c then u.DT else u.Ec).wO q:=λ_=>rfl;rw[h1,a,a];cases b<;>cases c
  ·show(t.Ec.Jz x p).wO q=_
   rw[Tr.YK x p q];simp
  ·show t.DT.wO q=_
   simp
  ·show t.Ec.wO q=_
   simp
  ·show(t.DT.Jz x p).wO q=_
   rw[Tr.YK x p q];simp
def Wn:WK->Nat
 |[]=>0
 |b::p=>2*Wn p+(if b then 1 else 2)
omit [aI] in
def ajY:∀(f n:Nat),n<2^f->Wn (P8 f n)=n
 |0,n,h=>by
  have:n=0:=by simpa using h
  subst this;rfl
 |f+1,n,h=>by
  have c:P8 (f+1) n=bif Nat.beq n 0 then[]else Nat.beq ((n-1)%2) 0::P8 f ((n-1)/2):=rfl
  rw[c];by_cases b:n=0
  ·subst b;rfl
  ·have d:Nat.beq n 0=false:=by cases n with|zero=>exact absurd rfl b|succ n=>rfl
   rw[d];show 2*Wn (P8 f ((n-1)/2))+_=n
   have e:2^(f+1)=2*2^f:=by rw[EG,CS]
   rw[ajY f _ (by omega)];rcases Nat.mod_two_eq_zero_or_one (n-1)with a|a
   ·rw[a];show 2*((n-1)/2)+1=n;omega
   ·rw[a];show 2*((n-1)/2)+2=n;omega
omit [aI] in
def ajX(n:Nat):Wn (path n)=n:=ajY _ _ Nat.lt_log2_self
omit [aI] in
def awE{n m:Nat}:path n=path m↔n=m:=⟨λh=>by rw[<-ajX n,h,ajX],λh=>by rw[h]⟩
omit [aI] in
def Tr.wP{α:Type}(t:Tr α)(n m:Nat)(x:Option α):(t.set n x).get m=if m=n then x else t.get m:=by
 unfold Tr.get Tr.set;rw[Tr.YK];by_cases h:m=n
 ·subst h;simp
 ·rw[ah h,ah (λe=>h (awE.1 e))]
omit [aI] in
def aA.get_put(J:aA)(id a:Nat)(o:bC):(J.put id o).get a=if a=id then some o else J.get a:=Tr.wP _ _ _ _
omit [aI] in
def aA.yL(J:aA)(id a:Nat):(J.kill id).get a=if a=id then none else J.get a:=Tr.wP _ _ _ _
omit [aI] in
def aA.rY(J:aA)(a:Nat)(o:bC):(J.new o).get a=if a=J.next then some o else J.get a:=Tr.wP _ _ _ _
def bC.own:bC->Bool
 |.cells _ _ rw _=>rw
 |_=>true
structure rE(P:Program)(H:Env)(q:Place)(c:Q3)(et:TypeId)(rw opn:Bool)(cs:QQ)(elem:TypeId)(fr:Nat×Nat):Prop where
 fits:q.ba+q.sz<=cs.size
 le:c.length<=q.sz
 shut:opn=false->c.length=q.sz
 cell:∀(k:Nat) a,c[k]? =some a->∃x,cs[q.ba+k]? =some x/\VR H a x
 free:rw=true->∀k,k<q.sz->¬(fr.1<=q.ba+k/\q.ba+k<fr.2)
 whole:et≠0->elem=et/\q.ba+q.sz=cs.size/\(opn=false->q.ba=0)
 room:opn=true->et≠0/\0<q.es/\sizeT P et=some q.es
def zU(b:Wd)(a:GV):Prop:=match b with
 |some k=>∃n,a=.i k n
 |none=>∃s,a=.s s
def Nb(sz:QR)(b:GV):Prop:=match sz with
 |none=>b.scalar=true
 |some n=>∃a,b=.g a/\a.length=n/\a.all GV.scalar=true
def rG(ro:Qf)(d:Wd)(sz:QR):Q1->List MapEntry->Prop
 |[],c=>c=[]
 |x::xs,c=>∃a b m rest,x=.g [a,b]/\c=m::rest/\zU d a/\Nb sz b/\GR ro a m.key/\GR ro b m.val/\rG ro d sz xs rest
def rG.mono{ro ro':Qf}(h:∀b o,ro b=some o->ro' b=some o){d:Wd}{sz:QR}:∀{xs:Q1}{c:List MapEntry},rG ro d sz xs c->rG ro' d sz xs c
 |[],c,r=>r
 |x::xs,c,r=>by obtain⟨a,b,m,rest,e,f,h1,g,i,j,h5⟩:=r;exact⟨a,b,m,rest,e,f,h1,g,GR.mono h _ _ i,GR.mono h _ _ j,rG.mono h h5⟩
def OR(P:Program)(H:Env)(q:Place)(w:World):bC->Prop
 |.cells c i rw opn=>∃cs elem h,w.heap[q.bl]? =some (.cells cs elem h)/\rE P H q c i rw opn cs elem h
 |.iter s pos=>w.heap[q.bl]? =some (.stringIter ⟨⟨s⟩⟩ pos)/\q.ba=0
 |.map es=>∃d a,w.heap[q.bl]? =some (.map d a)/\d.size=es.length/\∀(k:Nat) e,es[k]? =some e->∃m,d[k]? =some m/\VR H e.1 m.key/\VR H e.2 m.val
 |.vec n i f=>∃xs cs elem h j,aI.val n=some (.l xs)/\w.heap[q.bl]? =some (.cells cs elem h)/\aP H.ro xs j/\(∀y∈j,y.cells.size=q.es)/\EW cs q.ba (dS j)/\xs.length*q.es<=q.sz/\rE P H q [] i true true cs elem h/\(∀x∈xs,x.cells.all GV.scalar=true)/\(f=true->q.es<=q.sz)
 |.smap n l sz=>∃xs d a,aI.val n=some (.l xs)/\w.heap[q.bl]? =some (.map d a)/\rG H.ro l sz xs d.toList
 |.pmap es=>(es.map (·.1)).Nodup/\∃d a g,w.heap[q.bl]? =some (.map d a)/\d.toList.Perm g/\g.length=es.length/\∀(k:Nat) e,es[k]? =some e->∃m,g[k]? =some m/\m.key=.string ⟨⟨e.1⟩⟩/\VR H e.2 m.val
 |.iterM none=>q.ba=0/\∃b last,w.heap[q.bl]? =some (.mapIter none b #[] last)
 |.iterM (some m)=>q.ba=0/\∃b last q',H m=some q'/\w.heap[q.bl]? =some (.mapIter (some q'.bl) b #[] last)
def rE.mono{P:Program}{H H':Env}(h:H.le H'){q:Place}{c:Q3}{b:TypeId}{rw opn:Bool}{cs:QQ}{elem:TypeId}{d:Nat×Nat}
 (r:rE P H q c b rw opn cs elem d):rE P H' q c b rw opn cs elem d:=
 {r with cell:=λk a e=>by obtain⟨x,f,g⟩:=r.cell k a e;exact⟨x,f,VR.mono h _ _ g⟩}
def OR.mono{P:Program}{H H':Env}(h:H.le H'){q:Place}{w:World}{o:bC}(r:OR P H q w o):OR P H' q w o:=by
 cases o with
 |cells c B rw D=>obtain⟨p,b,t,d,g⟩:=r;exact⟨p,b,t,d,g.mono h⟩
 |iter s pos=>exact r
 |map es=>obtain⟨l,a,d,g,i⟩:=r;refine⟨l,a,d,g,λk e u=>?_⟩;obtain⟨m,v,x,y⟩:=i k e u;exact⟨m,v,VR.mono h _ _ x,VR.mono h _ _ y⟩
 |iterM m=>
  cases m with
  |none=>exact r
  |some m=>obtain⟨E,j,last,F,d,g⟩:=r;exact⟨E,j,last,F,h.pl _ _ d,g⟩
 |smap n S T=>obtain⟨z,l,a,d,g,i⟩:=r;exact⟨z,l,a,d,g,i.mono h.ro⟩
 |pmap es=>obtain⟨G,l,a,A,d,I,g,i⟩:=r;refine⟨G,l,a,A,d,I,g,λk e u=>?_⟩;obtain⟨m,v,x,y⟩:=i k e u;exact⟨m,v,x,VR.mono h _ _ y⟩
 |vec n B f=>obtain⟨z,p,b,t,J,d,g,i,L,M,N,O,Q⟩:=r;exact⟨z,p,b,t,J,d,g,aP.mono h.ro _ _ i,L,M,N,O.mono h,Q⟩
def OR.heap{P:Program}{H:Env}{q:Place}{w w':World}{o:bC}(h:w'.heap[q.bl]? =w.heap[q.bl]?)(r:OR P H q w o):OR P H q w' o:=by
 cases o with
 |iterM m=>cases m<;>simp only[OR]at r⊢<;>rw[h]<;>exact r
 |_=>simp only[OR]at r⊢;rw[h];exact r
def QZ(a:AV)(x:Value):Prop:=a.toVal 4=some x\/∃k lo hi m,a=.z k lo hi/\x=.int k m/\lo<=m/\m<=hi
def Xk(c:Q3)(cs:QQ):Prop:=(∀(k:Nat) a,c[k]? =some a->∃x,cs[k]? =some x/\QZ a x)/\(c≠[]->cs.size=c.length)/\(c=[]->∃t q,cs[0]? =some (.iface t q))
def QZ.vr{H:Env}{a:AV}{x:Value}(h:QZ a x):VR H a x:=by
 rcases h with h|⟨k,lo,hi,m,rfl,rfl,b,c⟩
 ·exact ajN 4 a x h
 ·simp only[VR];exact⟨m,b,c,rfl⟩
def EH(H:Env)(g:Nat)(c:Q3):Prop:=∃b a d,H.ro g=some (.cells b a d)/\c.length<=b.size/\Xk c b
def EH.mono{H H':Env}{g:Nat}{c:Q3}(h:EH H g c)(b:H.le H'):EH H' g c:=by obtain⟨d,a,e,f,i⟩:=h;exact⟨d,a,e,b.ro _ _ f,i⟩
def Live(P:Program)(H:Env)(w:World)(id:Nat)(o:bC):Prop:=(∃q,H id=some q/\OR P H q w o)\/(H.gh id=true/\∃n a f,o=.vec n a f/\aI.val n=some (.l []))
def Live.mono{P:Program}{H H':Env}(h:H.le H'){w:World}{id:Nat}{o:bC}(r:Live P H w id o):Live P H' w id o:=by
 rcases r with⟨q,a,b⟩|⟨c,d⟩
 ·exact .inl ⟨q,h.pl _ _ a,b.mono h⟩
 ·exact .inr ⟨h.gh _ c,d⟩
def Live.heap{P:Program}{H:Env}{w w':World}{id:Nat}{o:bC}(r:Live P H w id o)(h:∀q,H id=some q->OR P H q w o->w'.heap[q.bl]? =w.heap[q.bl]?):Live P H w' id o:=by
 rcases r with⟨q,a,b⟩|c
 ·exact .inl ⟨q,a,OR.heap (h q a b) b⟩
 ·exact .inr c
structure SR(P:Program)(H:Env)(J:aA)(w:World):Prop where
 nH:∀g,g<=P.globals.size->∃sz es,H g=some ⟨g,0,sz,es⟩
 dom:∀id q,H id=some q->id<J.next
 live:∀id o,J.get id=some o->Live P H w id o
 jT:∀id,H.gh id=true->H id=none/\id<J.next
 sep:∀id o id' o' q q',J.get id=some o->o.own=true->J.get id'=some o'->id≠id'->H id=some q->H id'=some q'->q.bl≠q'.bl
 ji:∀b o,H.ro b=some o->w.heap[b]? =some o
 lS:∀id o q,J.get id=some o->o.own=true->H id=some q->H.ro q.bl=none
 tabs:∀p∈aI.tabs,EH H p.1 p.2
def bC.auo:bC->Bool
 |.vec _ _ _=>true
 |_=>false
def SR.obj{P:Program}{H:Env}{J:aA}{w:World}(h:SR P H J w):∀id o,J.get id=some o->o.auo=false->∃q,H id=some q/\OR P H q w o:=by
 intro id o a b;rcases h.live id o a with c|⟨_,n,d,f,rfl,_⟩
 ·exact c
 ·cases b
def SR.at{P:Program}{H:Env}{J:aA}{w:World}(h:SR P H J w){id:Nat}{o:bC}{q:Place}(c:J.get id=some o)(b:H id=some q):OR P H q w o:=by
 rcases h.live id o c with⟨f,a,d⟩|⟨e,_⟩
 ·rw[b]at a;cases a;exact d
 ·rw[(h.jT id e).1]at b;cases b
structure St(P:Program)(H:Env)(J:aA)(w:World)(H':Env)(J':aA)(w':World):Prop where
 ext:H.le H'
 rel:SR P H' J' w'
 size:w.heap.size<=w'.heap.size
 keep:∀bl,bl<w.heap.size->(∀id o q,J.get id=some o->o.own=true->J.lock<=id->H id=some q->q.bl≠bl)->w'.heap[bl]? =w.heap[bl]?
 own:∀id o q,J'.get id=some o->o.own=true->J.lock<=id->H' id=some q->w.heap.size<=q.bl\/∃dX o0 q0,J.get dX=some o0/\o0.own=true/\J.lock<=dX/\H dX=some q0/\q0.bl=q.bl
 os:w'.os=w.os
 tape:w'.tape=w.tape
 output:w'.output=w.output
 lock:J'.lock=J.lock
 next:J.next<=J'.next
 new:∀id,H'.has id->H.has id\/(J.next<=id/\id<J'.next)
 qK:∀b,H'.ro b≠none->H.ro b≠none\/w.heap.size<=b\/∃dX o0 q0,J.get dX=some o0/\o0.own=true/\J.lock<=dX/\H dX=some q0/\q0.bl=b
def St.refl{P:Program}{H:Env}{J:aA}{w:World}(h:SR P H J w):St P H J w H J w:=
 ⟨Env.le.refl _,h,dY _,λ_ _ _=>rfl,λid o q a b c d=>.inr ⟨id,o,q,a,b,c,d,rfl⟩,rfl,rfl,rfl,rfl,dY _,λ_ h=>.inl h,λ_ h=>.inl h⟩
def St.trans{P:Program}{H H1 x:Env}{J y z:aA}{w w1 A:World}(h:St P H J w H1 y w1)(k:St P H1 y w1 x z A):St P H J w x z A:=by
 refine⟨h.ext.trans k.ext,k.rel,jP h.size k.size,?_,?_,k.os.trans h.os,k.tape.trans h.tape,k.output.trans h.output,k.lock.trans h.lock,jP h.next k.next,?_,?_⟩;rotate_right
 ·intro b E;rcases k.qK b E with h1|h1|⟨i,o0,j,p,r,s,d1,t⟩
  ·exact h.qK b h1
  ·exact .inr (.inl (jP h.size h1))
  ·rcases h.own i o0 j p r (h.lock▸s) d1 with g|⟨u,F,G,I,L,M,d2,N⟩
   ·right;left;omega
   ·exact .inr (.inr ⟨u,F,G,I,L,M,d2,N.trans t⟩)
 rotate_right
 ·intro id O;rcases k.new id O with h1|⟨h1,g⟩
  ·rcases h.new id h1 with f|⟨f,l⟩
   ·exact .inl f
   ·exact .inr ⟨f,xG l k.next⟩
  ·exact .inr ⟨Nat.le_trans h.next h1,g⟩
 ·intro B m n;rw[k.keep B (xG m h.size) ?_,h.keep B m n];intro id o q h1 g f l;rcases h.own id o q h1 g (h.lock▸f) l with D|⟨i,o0,j,a,b,c,d,e⟩
  ·omega
  ·rw[<-e];exact n i o0 j a b c d
 ·intro id o q h1 g f l;rcases k.own id o q h1 g (by rw[h.lock];exact f) l with D|⟨i,o0,j,a,b,c,d,e⟩
  ·exact .inl (jP h.size D)
  ·rcases h.own i o0 j a b (h.lock▸c) d with S|⟨v,o1,Q,p,r,s,d1,t⟩
   ·left;omega
   ·exact .inr ⟨v,o1,Q,p,r,s,d1,t.trans e⟩
def SR.hasLt{P:Program}{H:Env}{J:aA}{w:World}(h:SR P H J w){id:Nat}(a:H.has id):id<J.next:=a.elim (λ⟨q,b⟩=>h.dom id q b) λc=>(h.jT id c).2
def SR.O7{P:Program}{H:Env}{J:aA}{w:World}(h:SR P H J w){id:Nat}{o:bC}(a:J.get id=some o):H.has id:=(h.live id o a).elim (λ⟨q,b,_⟩=>.inl ⟨q,b⟩) λ⟨c,_⟩=>.inr c
def St.avV{P:Program}{H H':Env}{J J':aA}{w w':World}(h:St P H J w H' J' w'){id:Nat}{q:Place}(a:H' id=some q):H id=some q\/(J.next<=id/\id<J'.next):=by
 rcases h.new id (.inl ⟨q,a⟩)with(⟨p,b⟩|c)|d
 ·have:=h.ext.pl _ _ b;rw[a]at this;cases this;exact .inl b
 ·have:=(h.rel.jT id (h.ext.gh _ c)).1;rw[a]at this;cases this
 ·exact .inr d
def SR.drew{P:Program}{H:Env}{J:aA}{w:World}(h:SR P H J w):SR P H J {w with drawn:=w.drawn+1}:=
 ⟨h.nH,h.dom,λid o a=>(h.live id o a).heap (w:=w) (λ_ _ _=>rfl),h.jT,h.sep,h.ji,h.lS,h.tabs⟩
def St.drew{P:Program}{H:Env}{J:aA}{w:World}(h:SR P H J w):St P H J w H J {w with drawn:=w.drawn+1}:=
 ⟨Env.le.refl _,h.drew,dY _,λ_ _ _=>rfl,λid o q a b c d=>.inr ⟨id,o,q,a,b,c,d,rfl⟩,rfl,rfl,rfl,rfl,dY _,λ_ h=>.inl h,λ_ h=>.inl h⟩
def qy(bl off n:Nat):(⟨bl,off,none⟩:Addr).add n=⟨bl,off+n,none⟩:=by
 unfold Addr.add;split
 ·next h=>simp[h]
 ·rfl
def OA{w:World}{bl off:Nat}{cs:QQ}{elem:TypeId}{a:Nat×Nat}(h:w.heap[bl]? =some (.cells cs elem a)):
 w.cell? ⟨bl,off,none⟩=cs[off]?:=by
 simp[World.cell?,h]
def afb{w:World}{bl off:Nat}{cs:QQ}{elem:TypeId}{a:Nat×Nat}(h:w.heap[bl]? =some (.cells cs elem a)):
 w.frozen? ⟨bl,off,none⟩=(decide (a.1<=off)&&decide (off<a.2)):=by
 simp[World.frozen?,h]
def run_loadCellsFrom{P:Program}{w:World}{bl off:Nat}{cs:QQ}{elem:TypeId}{c:Nat×Nat}(h:w.heap[bl]? =some (.cells cs elem c)):
 ∀(n i:Nat)(a:QQ),off+i+n<=cs.size->
  (loadCellsFrom ⟨bl,off,none⟩ i n a).run P w=.ok (a++(cs.toList.drop (off+i)).take n) w:=by
 intro n;induction n with
 |zero=>intro i a _;simp[loadCellsFrom]
 |succ n d=>
  intro i a e;have b:off+i<cs.size:=by omega
  have f:w.cell? ⟨bl,off+i,none⟩=some cs[off+i]:=by rw[OA h];simp[b]
  simp only[loadCellsFrom,aT,qy];have g:(load ⟨bl,off+i,none⟩).run P w=.ok cs[off+i] w:=by simp[load,Sem.run,f]
  rw[g];simp only[aQ];rw[d (i+1) _ (by omega)];congr 1;have:cs.toList.drop (off+i)=cs[off+i]::cs.toList.drop (off+(i+1)):=by rw[dF (by simpa using b)];simp[jH]
  rw[this];simp
def run_loadCells{P:Program}{w:World}{bl off n:Nat}{cs:QQ}{elem:TypeId}{b:Nat×Nat}(h:w.heap[bl]? =some (.cells cs elem b))(a:off+n<=cs.size):
 (loadCells ⟨bl,off,none⟩ n).run P w=.ok ⟨(cs.toList.drop off).take n⟩ w:=by
 unfold loadCells;rw[run_loadCellsFrom h n 0 #[] (by simpa using a)];simp
def aiZ{P:Program}{w:World}{bl off:Nat}{cs:QQ}{elem:TypeId}{a:Nat×Nat}{x:Value}(h:w.heap[bl]? =some (.cells cs elem a))(b:cs[off]? =some x):
 (load ⟨bl,off,none⟩).run P w=.ok x w:=by
 have c:w.cell? ⟨bl,off,none⟩=some x:=by rw[OA h,b]
 simp[load,Sem.run,c]
def setFrom(cs:QQ)(off:Nat):Q6->Array Value
 |[]=>cs
 |v::vs=>setFrom (cs.setIfInBounds off v) (off+1) vs
def ML:∀(vs:Q6)(cs:QQ)(off:Nat),(setFrom cs off vs).size=cs.size
 |[],_,_=>rfl
 |v::vs,cs,off=>by rw[setFrom,ML vs];simp
def VD:∀(vs:Q6)(cs:QQ)(off k:Nat),off+vs.length<=cs.size->
 (setFrom cs off vs)[k]? =if off<=k/\k<off+vs.length then vs[k-off]? else cs[k]?
 |[],cs,off,k,h=>by simp[setFrom];omega
 |v::vs,cs,off,k,h=>by
  simp only[jw]at h;rw[setFrom,VD vs _ _ _ (by simp;omega)];by_cases h1:off+1<=k/\k<off+1+vs.length
  ·rw[aj h1,aj ⟨by omega,by simp;omega⟩];have:k-off=(k-(off+1))+1:=by omega
   rw[this];simp
  ·rw[ah h1];by_cases a:k=off
   ·subst a;rw[aj ⟨Nat.le_refl _,by simp⟩];have b:k<cs.size:=by omega
    simp[b]
   ·rw[ah (by simp only[jw];omega)];rw[CJ,ah (λe=>a e.symm)]
def nK(w:World)(bl:Nat)(o:Obj):World:={w with heap:=w.heap.setIfInBounds bl o}
def BZ{w:World}{bl:Nat}{o o':Obj}(h:w.heap[bl]? =some o):(nK w bl o').heap[bl]? =some o':=by have:bl<w.heap.size:=(qj.1 h).1;simp[nK,this]
def Ef{w:World}{bl k:Nat}{o':Obj}(h:k≠bl):(nK w bl o').heap[k]? =w.heap[k]?:=by simp only[nK];rw[CJ,ah (λe=>h e.symm)]
def Eh{w:World}{bl:Nat}{o':Obj}:(nK w bl o').heap.size=w.heap.size:=by simp[nK]
def aBh{w:World}{bl:Nat}{o o':Obj}:nK (nK w bl o) bl o'=nK w bl o':=by simp only[nK];congr 1;apply QC;intro i;simp only[CJ,Array.size_setIfInBounds];split<;>rfl
def setCell_eq{w:World}{bl off:Nat}{cs:QQ}{elem:TypeId}{a:Nat×Nat}(h:w.heap[bl]? =some (.cells cs elem a))(v:Value):
 w.setCell ⟨bl,off,none⟩ v=nK w bl (.cells (cs.setIfInBounds off v) elem a):=by
 unfold World.setCell nK;congr 1;apply QC;intro i;rw[JV,CJ];by_cases e:bl=i
 ·subst e;have:bl<w.heap.size:=(qj.1 h).1;rw[aj rfl,aj rfl,aj this,h];rfl
 ·rw[ah e,ah e]
def aBg{w:World}{bl:Nat}{o:Obj}(h:w.heap[bl]? =some o):nK w bl o=w:=by
 unfold nK;have:w.heap.setIfInBounds bl o=w.heap:=by
  apply QC;intro i;rw[CJ];by_cases e:bl=i
  ·subst e;have:bl<w.heap.size:=(qj.1 h).1;rw[aj rfl,aj this,h]
  ·rw[ah e]
 rw[this]
def pX:Value->Bool
 |.agg _|.tuple _=>false
 |_=>true
def abp{P:Program}:∀(vs:Q6)(w:World)(bl off i:Nat)(cs:QQ)(elem:TypeId)(a:Nat×Nat),
 w.heap[bl]? =some (.cells cs elem a)->off+i+vs.length<=cs.size->(∀v∈vs,pX v=true)->
 (∀k,off+i<=k->k<off+i+vs.length->¬(a.1<=k/\k<a.2))->
 (storeCells ⟨bl,off,none⟩ vs i).run P w=.ok () (nK w bl (.cells (setFrom cs (off+i) vs) elem a))
 |[],w,bl,off,i,cs,elem,a,h,_,_,_=>by simp[storeCells,setFrom,aBg h]
 |v::vs,w,bl,off,i,cs,elem,a,h,d,b,c=>by
  simp only[jw]at d c;have e:off+i<cs.size:=by omega
  have f:w.cell? ⟨bl,off+i,none⟩=some cs[off+i]:=by rw[OA h];simp[e]
  have g:w.frozen? ⟨bl,off+i,none⟩=false:=by rw[afb h];have:=c (off+i) (by omega) (by omega);simpa using this
  have j:=b v (by simp);have l:(store ⟨bl,off+i,none⟩ v).run P w=.ok () (nK w bl (.cells (cs.setIfInBounds (off+i) v) elem a)):=by rw[<-setCell_eq h];cases v<;>simp[pX]at j<;>simp[store,Sem.run,f,g]
  simp only[storeCells,aT,qy,l,aQ];rw[abp vs _ bl off (i+1) (cs.setIfInBounds (off+i) v) elem a (BZ h) (by simp;omega) (λx m=>b x (by simp[m])) (λk n o=>c k (by omega) (by omega))];rw[aBh];rfl
def Env.put(H:Env)(id:Nat)(q:Place):Env:=⟨λk=>if k=id then some q else H k,H.ro,H.gh⟩
def Env.Js{P:Program}{H:Env}{J:aA}{w:World}(h:SR P H J w)(q:Place):H.le (H.put J.next q):=by refine⟨λid p a=>?_,λ_ _ h=>h,λ_ h=>h⟩;have:=h.dom id p a;simp only[Env.put];rw[ah (by omega)];exact a
def wM{w:World}{k:Nat}{o:Obj}(h:w.heap[k]? =some o):k<w.heap.size:=(qj.1 h).1
def OR.lt{P:Program}{H:Env}{q:Place}{w:World}{o:bC}(h:OR P H q w o):q.bl<w.heap.size:=by
 cases o with
 |cells c e rw g=>obtain⟨i,d,j,a,_⟩:=h;exact wM a
 |iter s pos=>exact wM h.1
 |map es=>obtain⟨k,b,a,_⟩:=h;exact wM a
 |iterM m=>cases m with
  |none=>obtain⟨_,_,_,a⟩:=h;exact wM a
  |some m=>obtain⟨_,_,_,_,_,a⟩:=h;exact wM a
 |vec n e f=>obtain⟨_,_,_,_,_,_,a,_⟩:=h;exact wM a
 |smap n l p=>obtain⟨_,_,_,_,a,_⟩:=h;exact wM a
 |pmap es=>obtain⟨_,_,_,_,a,_⟩:=h;exact wM a
def Env.ah9{P:Program}{H:Env}{J:aA}{w:World}(h:SR P H J w)(q:Place){n:Nat}(c:J.next<n):∀id,(H.put J.next q).gh id=true->(H.put J.next q) id=none/\id<n:=by intro id a;obtain⟨b,d⟩:=h.jT id a;refine⟨?_,by omega⟩;simp only[Env.put];rw[ah (by omega)];exact b
def St.alloc{P:Program}{H:Env}{J:aA}{w:World}(h:SR P H J w)(o:bC)(v:Obj)(q:Place)(O:q.bl=w.heap.size)
 (F:OR P (H.put J.next q) q {w with heap:=w.heap.push v} o):St P H J w (H.put J.next q) (J.new o) {w with heap:=w.heap.push v}:=by
 have c:=Env.Js h q;have i:∀k,k<w.heap.size->(w.heap.push v)[k]? =w.heap[k]?:=λk Q=>by rw[QD,ah (by omega)]
 have r:∀b o,H.ro b=some o->b<w.heap.size:=λb o u=>wM (h.ji b o u);refine⟨c,⟨?_,?_,?_,Env.ah9 h q (ND _),?_,λb o u=>?_,λid o1 p x G s=>?_,λp d=>(h.tabs p d).mono c⟩,by simp,λbl y _=>i bl y,?_,rfl,rfl,rfl,rfl,Nat.le_succ _,?_,λ_ h=>.inl h⟩;rotate_right
 ·rintro id (⟨p,d⟩|z)
  ·simp only[Env.put]at d;split at d
   ·next e=>subst e;exact .inr ⟨Nat.le_refl _,ND _⟩
   ·exact .inl (.inl ⟨p,d⟩)
  ·exact .inl (.inr z)
 ·intro g z;obtain⟨I,es,a⟩:=h.nH g z;exact⟨I,es,c.pl _ _ a⟩
 ·intro id p d;simp only[Env.put]at d;show id<J.next+1
  split at d
  ·omega
  ·have:=h.dom id p d;omega
 ·intro id L f;rw[aA.rY]at f;split at f
  ·next e=>cases f;subst e;exact .inl ⟨q,by simp[Env.put],F⟩
  ·exact((h.live id L f).heap (w:=w) (λp _ M=>i _ M.lt)).mono c
 ·intro id o1 A E p N a B n j l m;rw[aA.rY]at a n;simp only[Env.put]at l m;split at a<;>split at n
  ·omega
  ·next e t=>
   rw[aj e]at l;rw[ah t]at m;cases l;have:=(h.at n m).lt;omega
  ·next e t=>
   rw[ah e]at l;rw[aj t]at m;cases m;have:=(h.at a l).lt;omega
  ·next e t=>
   rw[ah e]at l;rw[ah t]at m;exact h.sep id o1 A E p N a B n j l m
 ·exact(i b (r b o u)).trans (h.ji b o u)
 ·rw[aA.rY]at x;simp only[Env.put]at s⊢;split at x
  ·next e=>
   rw[aj e]at s;cases s;cases D:H.ro q.bl with
   |none=>rfl
   |some E=>have:=r _ _ D;omega
  ·next e=>rw[ah e]at s;exact h.lS id o1 p x G s
 ·intro id o1 p a B n j;rw[aA.rY]at a;simp only[Env.put]at j;split at a
  ·next e=>rw[aj e]at j;cases j;left;omega
  ·next e=>rw[ah e]at j;exact .inr ⟨id,o1,p,a,B,n,j,rfl⟩
def St.write{P:Program}{H:Env}{J:aA}{w w':World}(h:SR P H J w){id:Nat}{o o':bC}{q:Place}(l:J.get id=some o)(m:o.own=true)(B:J.lock<=id)
 (n:H id=some q) (F:w'.heap.size=w.heap.size) (v:∀k,k≠q.bl->w'.heap[k]? =w.heap[k]?) (h1:w'.os=w.os) (G:w'.tape=w.tape) (I:w'.output=w.output)
 (L:OR P H q w' o'):St P H J w H (J.put id o') w':=by
 have r:=h.lS id o q l m n;refine⟨Env.le.refl _,⟨h.nH,h.dom,?_,h.jT,?_,λb j u=>?_,λi j p x M y=>?_,h.tabs⟩,by omega,?_,?_,h1,G,I,rfl,dY _,λ_ h=>.inl h,λ_ h=>.inl h⟩
 ·intro s j t;rw[aA.get_put]at t;split at t
  ·next e=>cases t;subst e;exact .inl ⟨q,n,L⟩
  ·next e=>exact(h.live s j t).heap (w:=w) λp N _=>v _ (h.sep id o s j q p l m t (λO=>e O.symm) n N).symm
 ·intro g o1 i j p z a b c d e f;rw[aA.get_put]at a c;split at a<;>split at c
  ·omega
  ·next D E=>subst D;exact h.sep g o i j p z l m c d e f
  ·next D E=>subst E;exact h.sep g o1 i o p z a b l d e f
  ·exact h.sep g o1 i j p z a b c d e f
 ·rw[v b (λe=>by rw[e]at u;rw[r]at u;cases u)];exact h.ji b j u
 ·rw[aA.get_put]at x;split at x
  ·next e=>subst e;rw[n]at y;cases y;exact r
  ·exact h.lS i j p x M y
 ·intro bl Q A;exact v bl (A id o q l m B n).symm
 ·intro g o1 p a b c d;rw[aA.get_put]at a;split at a
  ·next e=>subst e;exact .inr ⟨g,o,p,l,m,B,d,rfl⟩
  ·exact .inr ⟨g,o1,p,a,b,c,d,rfl⟩
def St.again{P:Program}{H:Env}{J:aA}{w w':World}(h:SR P H J w){id:Nat}{o o':bC}{q q':Place}(j:J.get id=some o)(x:o.own=true)(M:J.lock<=id)
 (t:H id=some q) (m:q'.bl=q.bl) (O:w'.heap.size=w.heap.size) (E:∀k,k≠q.bl->w'.heap[k]? =w.heap[k]?) (h1:w'.os=w.os) (Q:w'.tape=w.tape) (S:w'.output=w.output)
 (T:OR P (H.put J.next q') q' w' o'):St P H J w (H.put J.next q') ((J.kill id).new o') w':=by
 have n:=Env.Js h q';have U:id<J.next:=h.dom id q t;have get:∀k,((J.kill id).new o').get k=if k=J.next then some o' else if k=id then none else J.get k:=λk=>by rw[aA.rY,aA.yL];rfl
 have y:=h.lS id o q j x t;refine⟨n,⟨?_,?_,?_,Env.ah9 h q' (ND _),?_,λb l F=>?_,λr l p z V A=>?_,λp i=>(h.tabs p i).mono n⟩,by omega,?_,?_,h1,Q,S,rfl,Nat.le_succ _,?_,λ_ h=>.inl h⟩;rotate_right
 ·rintro id (⟨p,i⟩|j)
  ·simp only[Env.put]at i;split at i
   ·next e=>subst e;exact .inr ⟨Nat.le_refl _,ND _⟩
   ·exact .inl (.inl ⟨p,i⟩)
  ·exact .inl (.inr j)
 ·intro g j;obtain⟨W,es,h1⟩:=h.nH g j;exact⟨W,es,n.pl _ _ h1⟩
 ·intro k p i;simp only[Env.put]at i;show k<J.next+1
  split at i
  ·omega
  ·have:=h.dom k p i;omega
 ·intro k l u;rw[get]at u;split at u
  ·next e=>cases u;subst e;exact .inl ⟨q',by simp[Env.put],T⟩
  ·split at u
   ·cases u
   ·next e v=>exact((h.live k l u).heap (w:=w) λp i _=>E _ (h.sep id o k l q p j x u (λG=>v G.symm) t i).symm).mono n
 ·intro s o1 r l p N a b c d e f;rw[get]at a c;simp only[Env.put]at e f;split at a<;>split at c
  ·omega
  ·next B v=>
   split at c
   ·cases c
   ·next I=>
    rw[aj B]at e;rw[ah v]at f;cases e;rw[m];exact h.sep id o r l q N j x c (λG=>I G.symm) t f
  ·next B v=>
   split at a
   ·cases a
   ·next I=>
    rw[ah B]at e;rw[aj v]at f;cases f;rw[m];exact h.sep s o1 id o p q a b j I e t
  ·next B v=>
   split at a
   ·cases a
   ·split at c
    ·cases c
    ·rw[ah B]at e;rw[ah v]at f;exact h.sep s o1 r l p N a b c d e f
 ·rw[E b (λe=>by rw[e]at F;have D:H.ro q.bl=some l:=F;rw[y]at D;cases D)];exact h.ji b l F
 ·rw[get]at z;simp only[Env.put]at A⊢;split at z
  ·next e=>rw[aj e]at A;cases A;rw[m];exact y
  ·next e=>
   rw[ah e]at A;split at z
   ·cases z
   ·exact h.lS r l p z V A
 ·intro bl X L;exact E bl (L id o q j x M t).symm
 ·intro s o1 p a b c d;rw[get]at a;simp only[Env.put]at d;split at a
  ·next e=>rw[aj e]at d;cases d;exact .inr ⟨id,o,q,j,x,M,t,m.symm⟩
  ·next e=>
   rw[ah e]at d;split at a
   ·cases a
   ·exact .inr ⟨s,o1,p,a,b,c,d,rfl⟩
def SR.sub{P:Program}{H:Env}{J τ:aA}{w:World}(h:SR P H J w)(i:∀id o,τ.get id=some o->J.get id=some o)(k:J.next<=τ.next):SR P H τ w:=
 ⟨h.nH,λid q l=>xG (h.dom id q l) k,λid o m=>h.live id o (i id o m),λid g=>⟨(h.jT id g).1,xG (h.jT id g).2 k⟩,
  λid o j n q p a b c d e f=>h.sep id o j n q p (i _ _ a) b (i _ _ c) d e f,h.ji,λid o q a b c=>h.lS id o q (i _ _ a) b c,h.tabs⟩
def St.sub{P:Program}{H H':Env}{J J' τ:aA}{w w':World}(h:St P H J w H' J' w')(f:∀id o,τ.get id=some o->J'.get id=some o)(e:J'.next<=τ.next)(g:τ.lock=J'.lock):St P H J w H' τ w':=
 {h with rel:=h.rel.sub f e,own:=λid o q a b c d=>h.own id o q (f _ _ a) b c d,lock:=g.trans h.lock,next:=jP h.next e,new:=λid i=>(h.new id i).imp (λx=>x) λ⟨a,b⟩=>⟨a,xG b e⟩}
