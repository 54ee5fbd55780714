/- Ground values, and the nodes by which a symbolic run names them. -/
import Derived.Calls
import Derived.Below
import Derived.Orders
import Derived.LoopN
import Derived.KernelRfl
import Derived.Laws.Strings
import Derived.WalkKit
namespace Go.aJ
set_option linter.unusedSimpArgs false
noncomputable section
abbrev ah:=@if_neg
abbrev ak:=@if_pos
abbrev aG:=@Bool.and_eq_true
abbrev aQ:=@Result.andThen_ok
abbrev aS:=@Sem.run_bind
abbrev aT:=@Option.some.injEq
abbrev aX:=@Option.map_eq_some_iff
abbrev bf:=@Sem.run_pure
abbrev bn:=@Nat.eq_of_beq_eq_true
abbrev bK:=@List.getElem?_eq_getElem
abbrev bY:=@List.length_append
abbrev cZ:=@Nat.le_refl
abbrev dn:=@List.mem_cons
abbrev dL:=@List.getElem?_eq_some_iff
abbrev dY:=@List.length_drop
abbrev fH:=@List.drop_zero
abbrev fJ:=@List.nil_append
abbrev fM:=@Bool.false_eq_true
abbrev fV:=@Option.map_some
abbrev gW:=@List.getElem?_cons_zero
abbrev gX:=@Nat.add_assoc
abbrev iy:=@List.map_cons
abbrev iC:=@Nat.blt_eq
abbrev iH:=@Nat.zero_add
abbrev iK:=@List.flatMap_cons
abbrev iQ:=@List.getElem?_map
abbrev iZ:=@List.drop_eq_nil_of_le
abbrev jD:=@List.eq_nil_of_length_eq_zero
abbrev jE:=@List.getElem_mem
abbrev jF:=@Nat.le_trans
abbrev jG:=@Prod.mk.injEq
abbrev jM:=@List.cons_append
abbrev jO:=@List.getElem?_take
abbrev jT:=@List.length_cons
abbrev jU:=@Nat.add_zero
abbrev kR:=@Bool.or_eq_true
abbrev kS:=@List.drop_eq_getElem_cons
abbrev kT:=@List.getElem?_append_left
abbrev mM:=@List.append_nil
abbrev mP:=@List.take_of_length_le
abbrev nK:=@List.length_take
abbrev nM:=@Nat.le_of_ble_eq_true
abbrev oh:=@Array.getElem?_eq_some_iff
abbrev oz:=@List.mem_append
abbrev oC:=@List.mem_map
abbrev oQ:=@List.drop_drop
abbrev oU:=@Option.getD_some
abbrev pW:=@List.getElem?_cons_succ
abbrev pX:=@List.getElem?_drop
abbrev qh:=@Nat.add_mul
abbrev qE:=@List.drop_left
abbrev qF:=@List.mem_of_getElem?
abbrev rC:=@Nat.mul_le_mul_right
abbrev rE:=@Sem.run_ite
abbrev sG:=@Array.getElem?_toList
abbrev sH:=@List.getElem?_append_right
abbrev sJ:=@List.length_nil
abbrev sN:=@Option.getD_none
abbrev tq:=@congrArg
abbrev uw:=@List.all_cons
abbrev uy:=@List.length_singleton
abbrev uz:=@List.mem_filter
abbrev uD:=@Nat.lt_of_lt_of_le
abbrev uF:=@Nat.zero_le
abbrev uG:=@Option.bind_eq_some_iff
abbrev vw:=@Array.getD_eq_getD_getElem?
abbrev vC:=@Bool.not_eq_true'
abbrev vF:=@List.getElem?_eq_none
abbrev vG:=@List.pairwise_cons
abbrev wC:=@BitVec.toNat_ofInt
abbrev wE:=@Bool.false_or
abbrev wH:=@List.mem_range
abbrev wI:=@List.take_succ_cons
abbrev xG:=@List.getD_eq_getElem?_getD
abbrev xH:=@List.map_append
abbrev xI:=@List.take_length
abbrev xJ:=@Nat.lt_or_ge
abbrev xK:=@Nat.sub_self
abbrev yN:=@Array.getElem?_eq_getElem
abbrev yO:=@Array.getElem?_setIfInBounds
abbrev yP:=@Bool.eq_iff_iff
abbrev yQ:=@Bool.or_false
abbrev yT:=@List.mem_cons_of_mem
abbrev yU:=@List.take_add
abbrev yV:=@Option.bind_some
abbrev Af:=@Int.natCast_add
abbrev Ag:=@Int.natCast_zero
abbrev Ah:=@List.getElem?_toArray
abbrev Ai:=@List.map_nil
abbrev Aj:=@Nat.lt_succ_self
abbrev BX:=@List.length_map
abbrev BZ:=@List.take_append_drop
abbrev Cb:=@Nat.mul_comm
abbrev Cc:=@Nat.one_mul
abbrev Ce:=@Nat.sub_zero
abbrev Ci:=@Option.some.inj
abbrev Ez:=@Array.getElem?_modify
abbrev EC:=@Array.getElem?_push
abbrev ED:=@Array.length_toList
abbrev EJ:=@List.drop_take
abbrev EK:=@List.ext_getElem?
abbrev EL:=@List.getElem?_of_mem
abbrev EM:=@List.mem_nil_iff
abbrev EN:=@List.mem_of_mem_take
abbrev EO:=@Nat.le_of_eq
abbrev EP:=@Nat.pow_succ
abbrev ER:=@Option.isNone_some
abbrev ES:=@Prod.exists
abbrev Gt:=@of_decide_eq_true
abbrev Iq:=@Array.ext'
abbrev Iy:=@Int.le_refl
abbrev Iz:=@List.mem_of_mem_drop
abbrev IB:=@List.replicate_succ
abbrev IC:=@Nat.add_comm
abbrev IE:=@Nat.min_eq_left
abbrev IG:=@Nat.mul_pos
abbrev KT:=@Array.ext_getElem?
abbrev KU:=@Int.fdiv_eq_ediv_of_nonneg
abbrev KX:=@List.filter_cons
abbrev KY:=@List.length_pos_iff
abbrev KZ:=@List.take_append_of_le_length
abbrev La:=@Nat.add_sub_cancel'
abbrev Lc:=@Nat.mod_eq_of_lt
abbrev Ld:=@Nat.pow_le_pow_right
abbrev Le:=@Nat.testBit_or
abbrev MV:=@decide_eq_false
abbrev Ql:=@Array.getElem?_append_left
abbrev Qm:=@Array.mapM_eq_mapM_toList
abbrev Qn:=@Bool.and_true
abbrev Qo:=@Bool.not_eq_false
abbrev Qp:=@Bool.not_true
abbrev Qq:=@Classical.em
abbrev Qr:=@List.cons.injEq
abbrev Qs:=@List.drop_append_of_le_length
abbrev Qu:=@List.drop_succ_cons
abbrev Qv:=@List.filter_sublist
abbrev Qw:=@List.length_eq_one_iff
abbrev Qx:=@List.lt_irrefl
abbrev Qy:=@List.lt_trans
abbrev Qz:=@List.mem_iff_getElem?
abbrev QA:=@List.take_add_one
abbrev QB:=@List.take_left
abbrev QC:=@List.take_zero
abbrev QE:=@Nat.add_sub_cancel_left
abbrev QF:=@Nat.mul_le_mul_left
abbrev QG:=@Sem.run_map
abbrev Rq:=@decide_eq_true
abbrev WJ:=@Array.eq_empty_of_size_eq_zero
abbrev WM:=@Array.map_empty
abbrev WO:=@Array.size_range
abbrev WQ:=@BitVec.toNat_and
abbrev WY:=@Int.zero_add
abbrev WZ:=@List.Perm.refl
abbrev W9:=@List.all_append
abbrev Xa:=@List.all_nil
abbrev Xb:=@List.contains_iff_mem
abbrev Xc:=@List.drop_append
abbrev Xd:=@List.filter_append
abbrev Xe:=@List.flatMap_append
abbrev Xf:=@List.getElem?_range
abbrev Xg:=@List.head?_cons
abbrev Xh:=@List.length_filter_le
abbrev Xi:=@List.mapM_cons
abbrev Xj:=@List.mem_flatMap
abbrev Xk:=@List.mem_or_eq_of_mem_set
abbrev Xl:=@List.mem_replicate
abbrev Xm:=@List.mem_singleton
abbrev Xn:=@List.mem_zipIdx_iff_getElem?
abbrev Xo:=@List.nodup_cons
abbrev Xp:=@List.singleton_append
abbrev Xq:=@List.take_take
abbrev Xr:=@Nat.ble_eq_true_of_le
abbrev Xt:=@Nat.eq_zero_or_pos
abbrev Xu:=@Nat.mul_assoc
abbrev Xv:=@Nat.mul_div_cancel
abbrev Xy:=@Option.toList_some
abbrev XC:=@UInt8.toNat_inj
abbrev XD:=@World.cell?_of_block
abbrev adu:=@Array.getElem?_replicate
abbrev adw:=@Classical.choose_spec
abbrev adx:=@List.cons_lt_cons_iff
abbrev ady:=@List.filter_cons_of_neg
abbrev adz:=@List.filter_cons_of_pos
abbrev adA:=@List.filter_eq_nil_iff
abbrev adB:=@List.mem_append_right
abbrev adC:=@List.pairwise_iff_getElem
abbrev adD:=@Nat.and_two_pow_sub_one_eq_mod
abbrev adE:=@Nat.le_mul_of_pos_right
abbrev adF:=@Nat.two_pow_add_eq_or_of_lt
abbrev adG:=@Option.isSome_iff_exists
inductive GV where
 | b (x:Bool)
 | i (k:IntKind) (n:Int)
 | s (x:List UInt8)
 | l (xs:List GV)
 | g (cs:List GV)
 deriving Inhabited
def GV.cells:GV->List GV
 | .g cs=>cs
 | v=>[v]
def GV.scalar:GV->Bool
 | .g _=>false
 | _=>true
def GV.fQ (size:Nat) (g:GV):Bool:=Nat.beq g.cells.length size&&g.cells.all GV.scalar
def eH (op:BinOp) (k:IntKind) (a b:Int):Option GV:=
 match op with
 | .add=>some (.i k (k.wrap (a+b)))
 | .sub=>some (.i k (k.wrap (a - b)))
 | .mul=>some (.i k (k.wrap (a * b)))
 | .quo=>if b=0 then none else some (.i k (k.wrap (a.tdiv b)))
 | .rem=>if b=0 then none else some (.i k (a.tmod b))
 | .and=>some (.i k (k.wrap (BitVec.ofInt k.bits a &&& BitVec.ofInt k.bits b).toNat))
 | .or=>some (.i k (k.wrap (BitVec.ofInt k.bits a ||| BitVec.ofInt k.bits b).toNat))
 | .xor=>some (.i k (k.wrap (BitVec.ofInt k.bits a ^^^ BitVec.ofInt k.bits b).toNat))
 | .andNot=>some (.i k (k.wrap (BitVec.ofInt k.bits a &&& ~~~ BitVec.ofInt k.bits b).toNat))
 | .eql=>some (.b (a==b))
 | .neq=>some (.b (a != b))
 | .lss=>some (.b (decide (a < b)))
 | .leq=>some (.b (decide (a<=b)))
 | .gtr=>some (.b (decide (a > b)))
 | .geq=>some (.b (decide (a>=b)))
 | _=>none
def nH (op:BinOp) (k:IntKind) (a b:Int):Option GV:=
 if b < 0 then none else
 match op with
 | .shl=>some (.i k (k.wrap (a * 2 ^ (min b.toNat k.bits))))
 | .shr=>some (.i k (a.fdiv (2 ^ (min b.toNat k.bits))))
 | _=>none
def uo (op:BinOp) (a b:List UInt8):Option GV:=
 match op with
 | .add=>if ((a.length+b.length:Nat):Int)<=IntKind.i64.max then some (.s (a++b)) else none
 | .eql=>some (.b (a==b))
 | .neq=>some (.b (!(a==b)))
 | .lss=>some (.b (Op.bytesLess a b))
 | .leq=>some (.b (Op.bytesLess a b || a==b))
 | .gtr=>some (.b (!(Op.bytesLess a b || a==b)))
 | .geq=>some (.b (!(Op.bytesLess a b)))
 | _=>none
def nS:List Nat->List GV->List GV->Option Bool
 | [],[],[]=>some true
 | 0::ks,.i k a::l,.i k' b::m=>if k=k' then (nS ks l m).map ((a==b)&&·) else none
 | 1::ks,.s a::l,.s b::m=>(nS ks l m).map ((a==b)&&·)
 | 2::ks,.b a::l,.b b::m=>(nS ks l m).map ((a==b)&&·)
 | _,_,_=>none
def fE (op:BinOp):GV->GV->Option GV
 | .i k a,.i k' b=>match op with
   | .shl=>nH .shl k a b
   | .shr=>nH .shr k a b
   | op=>if k=k' then eH op k a b else none
 | .s a,.s b=>uo op a b
 | _,_=>none
def L6 (op:BinOp):GV->GV->Option GV
 | .b a,.b b=>match op with
   | .eql=>some (.b (a==b))
   | .neq=>some (.b (!(a==b)))
   | _=>none
 | _,_=>none
def Fb (op:BinOp) (ks:List Nat):GV->GV->Option GV
 | .g a,.g b=>match op with
   | .eql=>(nS ks a b).map .b
   | .neq=>(nS ks a b).map λr=>.b (!r)
   | _=>none
 | _,_=>none
def P8 (op:UnOp):GV->Option GV
 | .b a=>match op with
   | .not=>some (.b (!a))
   | _=>none
 | .i k n=>match op with
   | .neg=>some (.i k (k.wrap (0 - n)))
   | .xor=>eH .xor k (if k.signed then -1 else k.max) n
   | _=>none
 | _=>none
def nP:List GV->Option (List UInt8)
 | []=>some []
 | .i .u8 n::rest=>if 0<=n/\n < 256 then (nP rest).map (UInt8.ofNat n.toNat::·) else none
 | _::_=>none
def dU (s:List UInt8):List GV:=s.map λb=>.i .u8 b.toNat
inductive Nd where
 | arg
 | ci (k:IntKind) (n:Int)
 | cb (x:Bool)
 | cs (x:List UInt8)
 | bin (op:BinOp) (a b:Nat)
 | Az (op:BinOp) (a b:Nat)
 | AA (op:BinOp) (ks:List Nat) (a b:Nat)
 | un (op:UnOp) (a:Nat)
 | mm (big:Bool) (a b:Nat)
 | conv (k:IntKind) (a:Nat)
 | len (a:Nat)
 | slen (a:Nat)
 | BL (a i:Nat)
 | BM (a lo hi:Nat)
 | zF (size a lo hi:Nat)
 | idx (a i:Nat)
 | at (size a i:Nat)
 | cell (off a:Nat)
 | mk (l:List Nat)
 | ml (l:List Nat)
 | app (size bytes a b:Nat)
 | upd (size off a i:Nat) (vs:List Nat)
 | rep (size bytes z l c:Nat)
 | bytes (a:Nat)
 | str (a:Nat)
 | zU (a:Nat)
 | same (a b:Nat)
 | wZ (a j:Nat)
 | call (f:Nat) (l:List Nat) (j:Nat)
 | BA (z m k:Nat)
 | BD (m k:Nat)
 | yx (m k v:Nat)
 deriving Inhabited
def ny:GV->GV->Bool
 | .i k a,.i k' b=>Nat.beq (IntKind.casesOn k 0 1 2 3 4 5 6 7) (IntKind.casesOn k' 0 1 2 3 4 5 6 7)&&a==b
 | .s a,.s b=>a==b
 | _,_=>false
def iD (k:GV):List GV->Option GV
 | []=>none
 | .g [a,v]::l=>if ny k a=true then some v else iD k l
 | _::l=>iD k l
def jw (k v:GV):List GV->List GV
 | []=>[.g [k,v]]
 | .g [a,u]::l=>if ny k a=true then .g [k,v]::l else .g [a,u]::jw k v l
 | x::l=>x::jw k v l
def valsOf (val:Nat->Option GV):List Nat->Option (List GV)
 | []=>some []
 | n::l=>match val n,valsOf val l with
   | some g,some r=>some (g::r)
   | _,_=>none
def GV.int:GV->Option Int
 | .i _ n=>some n
 | _=>none
def putCells (cs:List GV) (off:Nat) (vs:List GV):Option (List GV):=
 if off+vs.length<=cs.length then some (cs.take off++vs++cs.drop (off+vs.length)) else none
def GV.put (x:GV) (off:Nat) (vs:List GV):Option GV:=
 match x with
 | .g cs=>(putCells cs off vs).map .g
 | _=>match off,vs with
   | 0,[v]=>some v
   | _,_=>none
def Nd.den (I:Nat->List GV->Option (List GV)) (val:Nat->Option GV):Nd->Option GV
 | .arg=>none
 | .ci k n=>some (.i k n)
 | .cb x=>some (.b x)
 | .cs x=>some (.s x)
 | .bin op a b=>match val a,val b with
   | some x,some y=>fE op x y
   | _,_=>none
 | .Az op a b=>match val a,val b with
   | some x,some y=>L6 op x y
   | _,_=>none
 | .AA op ks a b=>match val a,val b with
   | some x,some y=>Fb op ks x y
   | _,_=>none
 | .un op a=>match val a with
   | some x=>P8 op x
   | none=>none
 | .mm big a b=>match val a,val b with
   | some (.i k x),some (.i k' y)=>if k=k' then some (.i k (if big then (if x < y then y else x) else (if y < x then y else x))) else none
   | _,_=>none
 | .conv k a=>match val a with
   | some (.i _ n)=>some (.i k (k.wrap n))
   | _=>none
 | .len a=>match val a with
   | some (.l xs)=>some (.i .i64 xs.length)
   | _=>none
 | .slen a=>match val a with
   | some (.s x)=>some (.i .i64 x.length)
   | _=>none
 | .BL a i=>match val a,val i with
   | some (.s x),some (.i _ k)=>if 0<=k then match x[k.toNat]? with
     | some c=>some (.i .u8 c.toNat)
     | none=>none
     else none
   | _,_=>none
 | .BM a lo hi=>match val a,val lo,val hi with
   | some (.s x),some (.i _ l),some (.i _ h)=>if 0<=l/\l<=h/\h<=x.length then some (.s ((x.take h.toNat).drop l.toNat)) else none
   | _,_,_=>none
 | .zF size a lo hi=>match val a,val lo,val hi with
   | some (.l xs),some (.i _ l),some (.i _ h)=>
     if 0<=l/\l<=h/\h<=xs.length/\(xs.all λx=>Nat.beq x.cells.length size)=true then some (.l ((xs.take h.toNat).drop l.toNat)) else none
   | _,_,_=>none
 | .idx a i=>match val a,val i with
   | some (.l xs),some (.i _ k)=>if 0<=k/\k < xs.length then some (.i .i64 k) else none
   | _,_=>none
 | .at size a i=>match val a,val i with
   | some (.l xs),some (.i _ k)=>if 0<=k then match xs[k.toNat]? with
     | some x=>if x.cells.length=size then some x else none
     | none=>none
     else none
   | _,_=>none
 | .cell off a=>match val a with
   | some g=>match g.cells[off]? with
     | some c=>if c.scalar then some c else none
     | none=>none
   | none=>none
 | .mk l=>match valsOf val l with
   | some gs=>if gs.all GV.scalar then some (.g gs) else none
   | none=>none
 | .ml l=>(valsOf val l).map .l
 | .app size bs a b=>match val a,val b with
   | some (.l xs),some (.l ys)=>
     if ys.all (GV.fQ size)=true/\2 * (xs.length+ys.length) * bs<=2 ^ 48/\xs.length+ys.length<=2 ^ 48 then some (.l (xs++ys)) else none
   | _,_=>none
 | .upd size off a i vs=>match val a,val i,valsOf val vs with
   | some (.l xs),some (.i _ k),some gs=>
     if 0<=k/\gs.all GV.scalar=true then match xs[k.toNat]? with
     | some x=>if x.cells.length=size then (x.put off gs).map λy=>.l (xs.set k.toNat y) else none
     | none=>none
     else none
   | _,_,_=>none
 | .rep size QX z l c=>match val z,val l,val c with
   | some x,some (.i _ n),some (.i _ m)=>
     if 0<=n/\n<=m/\QX * m<=2 ^ 48/\m<=2 ^ 60/\x.fQ size=true then some (.l (List.replicate n.toNat x)) else none
   | _,_,_=>none
 | .bytes a=>match val a with
   | some (.s x)=>some (.l (dU x))
   | _=>none
 | .str a=>match val a with
   | some (.l xs)=>if xs.length<=2 ^ 48 then (nP xs).map .s else none
   | _=>none
 | .zU a=>match val a with
   | some (.s x)=>some (.s x)
   | _=>none
 | .same a b=>match val a,val b with
   | some (.l xs),some (.l ys)=>if ys.length=xs.length then some (.l ys) else none
   | _,_=>none
 | .wZ a j=>match val a with
   | some (.i _ m)=>some (.b (decide (m=(j:Int))))
   | _=>none
 | .call f l j=>match valsOf val l with
   | some gs=>match I f gs with
     | some r=>r[j]?
     | none=>none
   | none=>none
 | .BA z m k=>match val z,val m,val k with
   | some d,some (.l xs),some g=>some ((iD g xs).getD d)
   | _,_,_=>none
 | .BD m k=>match val m,val k with
   | some (.l xs),some g=>some (.b (iD g xs).isSome)
   | _,_=>none
 | .yx m k v=>match val m,val k,val v with
   | some (.l xs),some g,some u=>some (.l (jw g u xs))
   | _,_,_=>none
def rV (o:BinOp):Nat:=BinOp.casesOn o 0 1 2 3 4 5 6 7 8 9 10 11 12 13 14 15 16
theorem ajh {o o':BinOp} (h:Nat.beq (rV o) (rV o')=true):o=o':=by
 cases o<;>cases o'<;>first | rfl | (simp [rV] at h)
def Eo (o:UnOp):Nat:=UnOp.casesOn o 0 1 2 3
theorem aoj {o o':UnOp} (h:Nat.beq (Eo o) (Eo o')=true):o=o':=by
 cases o<;>cases o'<;>first | rfl | (simp [Eo] at h)
def kc (k:IntKind):Nat:=IntKind.casesOn k 0 1 2 3 4 5 6 7
theorem Oa {o o':IntKind} (h:Nat.beq (kc o) (kc o')=true):o=o':=by
 cases o<;>cases o'<;>first | rfl | (simp [kc] at h)
def uU:List Nat->List Nat->Bool
 | [],[]=>true
 | a::l,b::m=>Nat.beq a b&&uU l m
 | _,_=>false
theorem Ul:∀ {l m:List Nat},uU l m=true->l=m
 | [],[],_=>rfl
 | a::l,b::m,h=>by
   simp only [uU,aG] at h;rw [bn h.1,Ul h.2]
 | [],_::_,h=>by simp [uU] at h
 | _::_,[],h=>by simp [uU] at h
def xX:List UInt8->List UInt8->Bool
 | [],[]=>true
 | a::l,b::m=>Nat.beq a.toNat b.toNat&&xX l m
 | _,_=>false
theorem QZ:∀ {l m:List UInt8},xX l m=true->l=m
 | [],[],_=>rfl
 | a::l,b::m,h=>by
   simp only [xX,aG] at h;rw [XC.1 (bn h.1),QZ h.2]
 | [],_::_,h=>by simp [xX] at h
 | _::_,[],h=>by simp [xX] at h
def DF (a b:Int):Bool:=match a,b with
 | .ofNat m,.ofNat n=>Nat.beq m n
 | .negSucc m,.negSucc n=>Nat.beq m n
 | _,_=>false
theorem aav {a b:Int} (h:DF a b=true):a=b:=by
 unfold DF at h;split at h
 ·rw [bn h]
 ·rw [bn h]
 ·cases h
def Nd.eq (x y:Nd):Bool:=
 match x with
 | .arg=>false
 | .ci k n=>match y with | .ci k' n'=>Nat.beq (kc k) (kc k')&&DF n n' | _=>false
 | .cb b=>match y with | .cb b'=>(bif b then b' else !b') | _=>false
 | .cs s=>match y with | .cs s'=>xX s s' | _=>false
 | .bin op a b=>match y with | .bin op' a' b'=>Nat.beq a a'&&Nat.beq b b'&&Nat.beq (rV op) (rV op') | _=>false
 | .Az op a b=>match y with | .Az op' a' b'=>Nat.beq a a'&&Nat.beq b b'&&Nat.beq (rV op) (rV op') | _=>false
 | .AA op ks a b=>match y with | .AA op' ks' a' b'=>Nat.beq a a'&&Nat.beq b b'&&Nat.beq (rV op) (rV op')&&uU ks ks' | _=>false
 | .un op a=>match y with | .un op' a'=>Nat.beq a a'&&Nat.beq (Eo op) (Eo op') | _=>false
 | .mm g a b=>match y with | .mm g' a' b'=>Nat.beq a a'&&Nat.beq b b'&&(bif g then g' else !g') | _=>false
 | .conv k a=>match y with | .conv k' a'=>Nat.beq a a'&&Nat.beq (kc k) (kc k') | _=>false
 | .len a=>match y with | .len a'=>Nat.beq a a' | _=>false
 | .slen a=>match y with | .slen a'=>Nat.beq a a' | _=>false
 | .BL a i=>match y with | .BL a' i'=>Nat.beq a a'&&Nat.beq i i' | _=>false
 | .BM a l h=>match y with | .BM a' l' h'=>Nat.beq a a'&&Nat.beq l l'&&Nat.beq h h' | _=>false
 | .zF s a l h=>match y with | .zF s' a' l' h'=>Nat.beq s s'&&Nat.beq a a'&&Nat.beq l l'&&Nat.beq h h' | _=>false
 | .idx a i=>match y with | .idx a' i'=>Nat.beq a a'&&Nat.beq i i' | _=>false
 | .at s a i=>match y with | .at s' a' i'=>Nat.beq s s'&&Nat.beq a a'&&Nat.beq i i' | _=>false
 | .cell o a=>match y with | .cell o' a'=>Nat.beq o o'&&Nat.beq a a' | _=>false
 | .mk l=>match y with | .mk l'=>uU l l' | _=>false
 | .ml l=>match y with | .ml l'=>uU l l' | _=>false
 | .app z s a b=>match y with | .app z' s' a' b'=>Nat.beq z z'&&Nat.beq s s'&&Nat.beq a a'&&Nat.beq b b' | _=>false
 | .upd s o a i vs=>match y with | .upd s' o' a' i' vs'=>Nat.beq s s'&&Nat.beq o o'&&Nat.beq a a'&&Nat.beq i i'&&uU vs vs' | _=>false
 | .rep s b z l c=>match y with | .rep s' b' z' l' c'=>Nat.beq s s'&&Nat.beq b b'&&Nat.beq z z'&&Nat.beq l l'&&Nat.beq c c' | _=>false
 | .bytes a=>match y with | .bytes a'=>Nat.beq a a' | _=>false
 | .str a=>match y with | .str a'=>Nat.beq a a' | _=>false
 | .zU a=>match y with | .zU a'=>Nat.beq a a' | _=>false
 | .same a b=>match y with | .same a' b'=>Nat.beq a a'&&Nat.beq b b' | _=>false
 | .wZ a j=>match y with | .wZ a' j'=>Nat.beq a a'&&Nat.beq j j' | _=>false
 | .call f l j=>match y with | .call f' l' j'=>Nat.beq f f'&&Nat.beq j j'&&uU l l' | _=>false
 | .BA z m k=>match y with | .BA z' m' k'=>Nat.beq z z'&&Nat.beq m m'&&Nat.beq k k' | _=>false
 | .BD m k=>match y with | .BD m' k'=>Nat.beq m m'&&Nat.beq k k' | _=>false
 | .yx m k v=>match y with | .yx m' k' v'=>Nat.beq m m'&&Nat.beq k k'&&Nat.beq v v' | _=>false
theorem OH {a b:Nat}:Nat.beq a b=true↔a=b:=⟨Nat.eq_of_beq_eq_true,λh=>by rw [h];exact Nat.beq_refl b⟩
theorem ai1 {l m:List Nat}:uU l m=true↔l=m:=⟨Ul,λh=>by subst h;induction l with | nil=>rfl | cons a l ih=>simp [uU,ih]⟩
theorem Yb {l m:List UInt8}:xX l m=true↔l=m:=⟨QZ,λh=>by subst h;induction l with | nil=>rfl | cons a l ih=>simp [xX,ih]⟩
theorem aaw {a b:Int}:DF a b=true↔a=b:=⟨aav,λh=>by subst h;cases a<;>simp [DF]⟩
theorem abE {o o':BinOp}:rV o=rV o'↔o=o':=⟨λh=>ajh (OH.2 h),λh=>by rw [h]⟩
theorem aoi {o o':UnOp}:Eo o=Eo o'↔o=o':=⟨λh=>aoj (OH.2 h),λh=>by rw [h]⟩
theorem ahL {o o':IntKind}:kc o=kc o'↔o=o':=⟨λh=>Oa (OH.2 h),λh=>by rw [h]⟩
theorem LZ {a b:Bool}:(bif a then b else !b)=true↔a=b:=by cases a<;>cases b<;>simp
theorem Nd.eq_of {x y:Nd} (h:x.eq y=true):x=y/\x≠.arg:=by
 cases x<;>simp only [Nd.eq] at h
 case arg=>cases h
 all_goals
  split at h
  ·simp only [aG,OH,ai1,Yb,aaw,abE,aoi,ahL,LZ] at h
   simp_all
  ·cases h
class fB where
 nodes:List Nd
 dec:List (Nat×Bool)
 ka:Nat:=0
def Jq (x:Nd):List Nd->Nat->Option Nat
 | [],_=>none
 | y::l,k=>bif x.eq y then some k else Jq x l (k+1)
def dP [fB] (x:Nd):Option Nat:=Jq x fB.nodes 0
def Jk (n:Nat):List (Nat×Bool)->Option Bool
 | []=>none
 | p::l=>bif Nat.beq n p.1 then some p.2 else Jk n l
def Ro [fB] (n:Nat):Option Bool:=Jk n fB.dec
theorem ZL {x:Nd}:∀ {l:List Nd} {k n:Nat},Jq x l k=some n->k<=n/\l[n - k]? = some x/\x≠.arg
 | [],_,_,h=>by simp [Jq] at h
 | y::l,k,n,h=>by
   simp only [Jq] at h;cases he:x.eq y with
   | true=>
     rw [he] at h;simp only [cond_true,aT] at h;subst h;obtain ⟨rfl,h2⟩:=Nd.eq_of he;exact ⟨Nat.le_refl _,by simp,h2⟩
   | false=>
     rw [he] at h;simp only [cond_false] at h;obtain ⟨h1,h2,h3⟩:=ZL h;refine ⟨by omega, ?_,h3⟩;have:n - k=(n - (k+1))+1:=by omega
     rw [this,pW];exact h2
theorem afY [fB] {x:Nd} {n:Nat} (h:dP x=some n):fB.nodes[n]? = some x/\x≠.arg:=by
 obtain ⟨_,h2,h3⟩:=ZL h;exact ⟨by simpa using h2,h3⟩
theorem Jl {n:Nat} {b:Bool}:∀ {l:List (Nat×Bool)},Jk n l=some b->(n,b)∈l
 | [],h=>by simp [Jk] at h
 | p::l,h=>by
   simp only [Jk] at h;cases he:Nat.beq n p.1 with
   | true=>
     rw [he] at h;simp only [cond_true,aT] at h;have:p=(n,b):=by rw [<- h,bn he]
     rw [this];simp
   | false=>
     rw [he] at h;simp only [cond_false] at h;exact yT _ (Jl h)
end
end Go.aJ
namespace Go.aJ
set_option linter.unusedSimpArgs false
noncomputable section
inductive AV where
 | b (x:Bool)
 | i (k:IntKind) (n:Int)
 | s (x:List UInt8)
 | iO
 | p (id off:Nat)
 | dA
 | sl (id off len:Nat) (cap:Option Nat)
 | nY
 | mp (id:Nat)
 | xu
 | fn (f:FuncId) (first caps:List AV)
 | qy
 | dO (t:TypeId) (v:AV)
 | agg (l:List AV)
 | cO (l:List AV)
 | z (k:IntKind) (lo hi:Int)
 | ro (l:List AV)
 | rp (a:AV) (off:Nat)
 | nd (n:Nat)
 | rx (n off:Nat)
 | sv (id n:Nat)
 | pv (id n off:Nat)
 | pd (id n:Nat)
 deriving Inhabited
structure Place where
 bl:Nat
 ba:Nat
 sz:Nat
 es:Nat
structure Env where
 pl:Nat->Option Place
 ro:Nat->Option Obj
 gh:Nat->Bool
instance:CoeFun Env (λ_=>Nat->Option Place):=⟨Env.pl⟩
class aC extends fB where
 tabs:List (Nat×List AV)
 I:Nat->List GV->Option (List GV)
 val:Nat->Option GV
 oK:∀ (n:Nat) nd,nodes[n]? = some nd->nd≠.arg->∃g,val n=some g/\nd.den I val=some g
 x9:∀ (n:Nat) (b:Bool),(n,b)∈dec->val n=some (.b b)
def bU (xs:List Value):List Value:=xs.flatMap λx=>x.cells.toList
def AL (cs:Array Value) (off:Nat) (l:List Value):Prop:=∀ (k:Nat) x,l[k]? = some x->cs[off+k]? = some x
mutual
def GR (ro:Nat->Option Obj):GV->Value->Prop
 | .b x,v=>v=.bool x
 | .i k n,v=>v=.int k n
 | .s x,v=>v=.string ⟨⟨x⟩⟩
 | .g cs,v=>∃vs,v=.agg ⟨vs⟩/\aK ro cs vs
 | .l xs,v=>(xs=[]/\∃p,v=.slice p 0 0)\/∃bl off c ys sz,v=.slice (some ⟨bl,off,none⟩) xs.length c/\xs.length<=c/\aK ro xs ys/\(∀x∈ys,x.cells.size=sz)/\
    (xs≠[]->∃cs elem fr,ro bl=some (.cells cs elem fr)/\off+(bU ys).length<=cs.size/\AL cs off (bU ys))
def aK (ro:Nat->Option Obj):List GV->List Value->Prop
 | [],vs=>vs=[]
 | a::l,vs=>∃x xs,vs=x::xs/\GR ro a x/\aK ro l xs
end
variable [aC]
mutual
def VR (η:Env):AV->Value->Prop
 | .b x,v=>v=.bool x
 | .i k n,v=>v=.int k n
 | .s x,v=>v=.string ⟨⟨x⟩⟩
 | .iO,v=>v=.pointer none
 | .p id off,v=>∃q,η id=some q/\v=.pointer (some ⟨q.bl,q.ba+off,none⟩)
 | .dA,v=>v=.slice none 0 0
 | .sl id off len cap,v=>∃q,η id=some q/\len<=cap.getD ((q.sz - off) / q.es)/\v=.slice (some ⟨q.bl,q.ba+off,none⟩) len (cap.getD ((q.sz - off) / q.es))
 | .nY,v=>v=.map none
 | .mp id,v=>∃q,η id=some q/\v=.map (some q.bl)
 | .xu,v=>v=.nilFunc
 | .fn f fi caps,v=>∃us vs,v=.func (.func f) ⟨us⟩ ⟨vs⟩/\ay η fi us/\ay η caps vs
 | .qy,v=>v=.nilIface
 | .dO t a,v=>∃x,v=.iface t x/\VR η a x
 | .agg l,v=>∃vs,v=.agg ⟨vs⟩/\ay η l vs
 | .cO l,v=>∃vs,v=.tuple ⟨vs⟩/\ay η l vs
 | .z k lo hi,v=>∃n:Int,lo<=n/\n<=hi/\v=.int k n
 | .ro l,v=>(l=[]/\∃p,v=.slice p 0 0)\/∃bl off c xs sz,v=.slice (some ⟨bl,off,none⟩) l.length c/\l.length<=c/\ay η l xs/\(∀x∈xs,x.cells.size=sz)/\
    (l≠[]->∃cs elem fr,η.ro bl=some (.cells cs elem fr)/\off+(bU xs).length<=cs.size/\AL cs off (bU xs))
 | .rp a off,v=>∃bl base cs elem fr x,η.ro bl=some (.cells cs elem fr)/\VR η a x/\v=.pointer (some ⟨bl,base+off,none⟩)/\base+x.cells.size<=cs.size/\AL cs base x.cells.toList
 | .nd n,v=>∃g,aC.val n=some g/\g.scalar=true/\GR η.ro g v
 | .rx n off,v=>∃g bl base cs elem fr x,aC.val n=some g/\η.ro bl=some (.cells cs elem fr)/\GR η.ro g x/\v=.pointer (some ⟨bl,base+off,none⟩)/\base+x.cells.size<=cs.size/\AL cs base x.cells.toList
 | .sv id n,v=>∃xs,aC.val n=some (.l xs)/\((∃q,η id=some q/\xs.length<=q.sz / q.es/\v=.slice (some ⟨q.bl,q.ba,none⟩) xs.length (q.sz / q.es))\/(η.gh id=true/\xs=[]/\v=.slice none 0 0))
 | .pv id n off,v=>∃q k i,η id=some q/\aC.val n=some (.i k i)/\v=.pointer (some ⟨q.bl,q.ba+i.toNat * q.es+off,none⟩)
 | .pd id n,v=>∃xs p,aC.val n=some (.l xs)/\v=.pointer p/\(xs≠[]->∃q,η id=some q/\p=some ⟨q.bl,q.ba,none⟩)
def ay (η:Env):List AV->List Value->Prop
 | [],vs=>vs=[]
 | a::l,vs=>∃x xs,vs=x::xs/\VR η a x/\ay η l xs
end
inductive Tr (α:Type) where
 | nil
 | nd (v:Option α) (l r:Tr α)
 deriving Inhabited
def Tr.val {α:Type} (t:Tr α):Option α:=Tr.casesOn t none (λv _ _=>v)
def Tr.zD {α:Type} (t:Tr α):Tr α:=Tr.casesOn t .nil (λ_ l _=>l)
def Tr.zO {α:Type} (t:Tr α):Tr α:=Tr.casesOn t .nil (λ_ _ r=>r)
def Tr.tH {α:Type} (p:List Bool):Tr α->Option α:=List.rec (motive:=λ_=>Tr α->Option α) Tr.val (λb _ ih t=>ih (bif b then t.zD else t.zO)) p
def Tr.Ei {α:Type} (x:Option α) (p:List Bool):Tr α->Tr α:=List.rec (motive:=λ_=>Tr α->Tr α) (λt=>.nd x t.zD t.zO)
 (λb _ ih t=>bif b then .nd t.val (ih t.zD) t.zO else .nd t.val t.zD (ih t.zO)) p
def J5 (f:Nat):Nat->List Bool:=Nat.rec (motive:=λ_=>Nat->List Bool) (λ_=>[]) (λ_ ih n=>bif Nat.beq n 0 then [] else Nat.beq ((n - 1) % 2) 0::ih ((n - 1) / 2)) f
def path (n:Nat):List Bool:=J5 (Nat.log2 n+1) n
def Tr.get {α:Type} (t:Tr α) (n:Nat):Option α:=Tr.tH (path n) t
def Tr.set {α:Type} (t:Tr α) (n:Nat) (x:Option α):Tr α:=Tr.Ei x (path n) t
inductive aZ where
 | cells (c:List AV) (et:TypeId) (rw opn:Bool)
 | iter (s:List UInt8) (pos:Nat)
 | map (es:List (AV×AV))
 | iterM (m:Option Nat)
 | vec (n:Nat) (et:TypeId) (f:Bool)
 | smap (n:Nat) (kk:Option IntKind) (sz:Option Nat)
 | pmap (es:List (List UInt8×AV))
 deriving Inhabited
structure aj where
 h:Tr aZ
 next:Nat
 lock:Nat
 deriving Inhabited
def aj.get (σ:aj) (id:Nat):Option aZ:=σ.h.get id
def aj.put (σ:aj) (id:Nat) (o:aZ):aj:={ σ with h:=σ.h.set id (some o) }
def aj.kill (σ:aj) (id:Nat):aj:={ σ with h:=σ.h.set id none }
def aj.new (σ:aj) (o:aZ):aj:={ σ with h:=σ.h.set σ.next (some o),next:=σ.next+1 }
def qR {α β:Type} (f:α->Option β):List α->Option (List β)
 | []=>some []
 | x::xs=>match f x with
   | none=>none
   | some y=>match qR f xs with
     | none=>none
     | some ys=>some (y::ys)
def AV.toVal:Nat->AV->Option Value
 | 0,_=>none
 | n+1,a=>
   match a with
   | .b x=>some (.bool x)
   | .i k x=>some (.int k x)
   | .s x=>some (.string ⟨⟨x⟩⟩)
   | .iO=>some (.pointer none)
   | .dA=>some (.slice none 0 0)
   | .nY=>some (.map none)
   | .xu=>some .nilFunc
   | .qy=>some .nilIface
   | .dO t v=>(AV.toVal n v).map (.iface t)
   | .agg l=>(qR (AV.toVal n) l).map λvs=>.agg ⟨vs⟩
   | .cO l=>(qR (AV.toVal n) l).map λvs=>.tuple ⟨vs⟩
   | _=>none
def jK:Nat->Value->Option AV
 | 0,_=>none
 | n+1,v=>
   match v with
   | .bool x=>some (.b x)
   | .int k x=>some (.i k x)
   | .string s=>some (.s s.data.toList)
   | .pointer none=>some .iO
   | .slice none 0 0=>some .dA
   | .map none=>some .nY
   | .nilFunc=>some .xu
   | .nilIface=>some .qy
   | .iface t x=>(jK n x).map (.dO t)
   | .agg cs=>(qR (jK n) cs.toList).map .agg
   | .tuple cs=>(qR (jK n) cs.toList).map .cO
   | _=>none
def og {α:Type} (P:Program):Sem α->Option α
 | .pure a=>some a
 | .program k=>og P (k P)
 | .mark _ k=>og P k
 | _=>none
structure aW where
 t:Tr AV
 n:Nat
 gn:Nat
def aW.eval (a:aW):Operand->Option AV
 | .tmp t=>a.t.get t
 | .const v=>jK 4 v
 | .global g=>if g < a.gn then some (.p g 0) else none
 | .func f=>some (.fn f [] [])
def aW.put (a:aW) (dst:Option Tmp) (v:Option AV):Option aW:=
 match dst with
 | none=>some a
 | some d=>if d < a.n then some { a with t:=a.t.set d v } else none
def AV.cells:AV->List AV
 | .agg l=>l
 | v=>[v]
def AV.kK:AV->Bool
 | .agg _ | .cO _=>false
 | _=>true
def wB (P:Program) (t:TypeId):Option (List AV):=
 match P.info? t with
 | some i=>match i.zero with
   | some z=>(jK 4 z).map AV.cells
   | none=>none
 | none=>none
def ng (P:Program) (t:TypeId):Option Bool:=
 match P.underlying t with
 | some (.struct _) | some (.array _ _)=>some true
 | some _=>some false
 | none=>none
def sizeT (P:Program) (t:TypeId):Option Nat:=(P.info? t).map (·.size)
def takeN (l:List AV) (off n:Nat):Option (List AV):=
 let r:=(l.drop off).take n
 if r.length=n then some r else none
def xA (l:List AV) (off:Nat) (vs:List AV):Option (List AV):=
 if off+vs.length<=l.length then some (l.take off++vs++l.drop (off+vs.length)) else none
def xO (place:Nat->Option (Nat×Nat)) (cells:List AV):List (Nat×AV)->Option (List AV)
 | []=>some cells
 | (i,v)::rest=>
   match place i with
   | none=>none
   | some (off,size)=>
     if v.cells.length=size then
      match xA cells off v.cells with
      | some cs=>xO place cs rest
      | none=>none
     else none
def Ba (ev:Operand->Option AV):List (Nat×Operand)->Option (List (Nat×AV))
 | []=>some []
 | (i,x)::rest=>match ev x,Ba ev rest with
   | some v,some r=>some ((i,v)::r)
   | _,_=>none
def yh (ev:Operand->Option AV):List Operand->Option (List AV)
 | []=>some []
 | x::rest=>match ev x,yh ev rest with
   | some v,some r=>some (v::r)
   | _,_=>none
def LK (P:Program) (t:TypeId) (cs:List AV) (off:Nat):Option AV:=
 match ng P t with
 | some true=>match sizeT P t with
   | some n=>(takeN cs off n).map .agg
   | none=>none
 | some false=>cs[off]?
 | none=>none
def Kw (P:Program):List Field->Option (List (Nat×Nat))
 | []=>some []
 | f::fs=>match sizeT P f.type,Kw P fs with
   | some n,some r=>some ((f.offset,n)::r)
   | _,_=>none
def Lm (P:Program) (t:TypeId) (parts:List (Nat×AV)):Option AV:=
 match wB P t,P.underlying t with
 | some zero,some (.struct fields)=>
   match Kw P fields.toList with
   | some places=>(xO (λi=>places[i]?) zero parts).map .agg
   | none=>none
 | some zero,some (.array _ elem)=>
   match sizeT P elem with
   | some size=>(xO (λi=>some (i * size,size)) zero parts).map .agg
   | none=>none
 | _,_=>none
def ig (n:Nat) (zero:List AV):List AV:=(List.replicate n zero).flatten
def sU (P:Program) (t:TypeId) (σ:aj) (a:AV):Option AV:=
 match a with
 | .p id off=>
   match σ.get id with
   | some (.cells c _ _ _)=>
     match ng P t with
     | some true=>match sizeT P t with
       | some n=>(takeN c off n).map .agg
       | none=>none
     | some false=>c[off]?
     | none=>none
   | _=>none
 | .rp e off=>
   match ng P t with
   | some true=>match sizeT P t with
     | some n=>(takeN e.cells off n).map .agg
     | none=>none
   | some false=>e.cells[off]?
   | none=>none
 | _=>none
def Ar (P:Program) (t:TypeId) (σ:aj) (a v:AV):Option aj:=
 match a with
 | .p id off=>
   match σ.get id with
   | some (.cells c et true opn)=>
     if σ.lock<=id/\sizeT P t=some v.cells.length/\v.cells.all AV.kK then
      (xA c off v.cells).map λc'=>σ.put id (.cells c' et true opn)
     else none
   | _=>none
 | _=>none
def sQ:AV->Option Int
 | .i _ n=>some n
 | _=>none
def xP (len:Nat) (room:Nat->Bool):Option AV->Option Nat
 | none=>some len
 | some v=>match sQ v with
   | some h=>if 0<=h/\room h.toNat=true then some h.toNat else none
   | none=>none
def EW (h:Nat):Option AV->Option Nat
 | none=>some 0
 | some v=>match sQ v with
   | some l=>if 0<=l/\l<=h then some l.toNat else none
   | none=>none
def uI (len:Nat) (room:Nat->Bool) (low high:Option AV):Option (Nat×Nat):=
 match xP len room high with
 | none=>none
 | some h=>match EW h low with
   | none=>none
   | some l=>some (l,h)
def DW (ev:Operand->Option AV):Option Operand->Option (Option AV)
 | none=>some none
 | some x=>(ev x).map some
end
end Go.aJ
namespace Go.aJ
set_option linter.unusedSimpArgs false
noncomputable section
variable [fB]
set_option linter.unusedSectionVars false
set_option linter.unusedVariables false
def bytesOf:List AV->Option (List UInt8)
 | []=>some []
 | .i .u8 n::rest=>if 0<=n/\n < 256 then (bytesOf rest).map (UInt8.ofNat n.toNat::·) else none
 | _::_=>none
def sZ (s:List UInt8):List AV:=s.map λb=>.i .u8 b.toNat
def uj (a:AV):Option Value:=a.toVal 4
def tu (P:Program) (t:TypeId):Option (TypeId×Nat×Nat×List AV):=
 match P.underlying t with
 | some (.slice e)=>match P.info? e,wB P e with
   | some i,some z=>if e≠0/\z.length=i.size then some (e,i.size,i.bytes,z) else none
   | _,_=>none
 | _=>none
def wo (σ:aj) (size:Nat):AV->Option (Nat×List AV)
 | .dA=>some (0,[])
 | .sl id off len _=>match σ.get id with
   | some (.cells c _ _ _)=>(takeN c off (len * size)).map λr=>(len,r)
   | _=>none
 | .s x=>if size=1 then some (x.length,sZ x) else none
 | .ro l=>if l.all (λa=>a.cells.length==size)=true then some (l.length,l.flatMap AV.cells) else none
 | _=>none
def Bh (P:Program) (t:TypeId):Bool:=
 match P.underlying t with
 | some (.slice _) | some .string=>true
 | _=>false
def sliceLen:AV->Nat
 | .sl _ _ n _=>n
 | _=>0
def nN (e size bytes:Nat) (s:AV) (n:Nat) (new:List AV) (σ:aj):Option (AV×aj):=
 if size=0\/new.all AV.kK=false\/¬ (2 * (sliceLen s+n) * bytes<=2 ^ 48/\sliceLen s+n<=2 ^ 48) then none else
 match s with
 | .dA=>
   if n=0 then some (.dA,σ) else some (.sl σ.next 0 n none,σ.new (.cells new e true true))
 | .sl id off len (some cap)=>
   if len+n<=cap then
    if n=0 then some (s,σ) else
    match σ.get id with
    | some (.cells c et true opn)=>
      if σ.lock<=id then
       (xA c (off+len * size) new).map λc'=>(.sl id off (len+n) (some cap),σ.put id (.cells c' et true opn))
      else none
    | _=>none
   else
    match σ.get id with
    | some (.cells c _ _ _)=>(takeN c off (len * size)).map λold=>(.sl σ.next 0 (len+n) none,σ.new (.cells (old++new) e true true))
    | _=>none
 | .sl id off len none=>
   if n=0 then some (s,σ)
   else if σ.lock<=id then
    match σ.get id with
    | some (.cells c et true true)=>if et=e then (takeN c off (len * size)).map λold=>(.sl σ.next 0 (len+n) none,(σ.kill id).new (.cells (old++new) e true true)) else none
    | _=>none
   else none
 | .ro l=>if n=0 then some (.ro l,σ) else none
 | _=>none
def QH (P:Program) (argTypes:Array TypeId) (s x:AV) (σ:aj):Option (AV×aj):=
 match argTypes.toList with
 | [t,t1]=>
   match tu P t,Bh P t1 with
   | some (e,size,bytes,_),true=>
     match wo σ size x with
     | some (n,new)=>nN e size bytes s n new σ
     | none=>none
   | _,_=>none
 | _=>none
def Lu (P:Program) (σ:aj) (t:TypeId) (x:AV):Option AV:=
 match P.underlying t,x with
 | some .string,.s s=>some (.i .i64 s.length)
 | some (.slice _),.dA=>some (.i .i64 0)
 | some (.slice _),.sl _ _ n _=>some (.i .i64 n)
 | some (.slice _),.ro l=>some (.i .i64 l.length)
 | some (.map _ _),.nY=>some (.i .i64 0)
 | some (.map _ _),.mp id=>match σ.get id with
   | some (.map es)=>some (.i .i64 es.length)
   | _=>none
 | some (.array n _),_=>some (.i .i64 n)
 | _,_=>none
def LD (P:Program) (t:TypeId) (len cap:AV) (σ:aj):Option (AV×aj):=
 match tu P t,sQ len,sQ cap with
 | some (e,size,bytes,z),some l,some c=>
   if 0<=l/\l<=c/\bytes * c<=2 ^ 48/\c<=2 ^ 60 then
    some (.sl σ.next 0 l.toNat (some c.toNat),σ.new (.cells (if size=0 then [] else ig c.toNat z) e true false))
   else none
 | _,_,_=>none
def LM (size:Nat) (es:List AV) (l h:Nat):Option AV:=
 if h=l then some (.ro []) else
 match es[0]? with
 | some a=>if a.cells.length=size then some (.ro ((es.take h).drop l)) else none
 | none=>none
def xU (P:Program) (t:TypeId) (σ:aj) (x:AV) (lo hi:Option AV):Option AV:=
 match P.underlying t,x with
 | some .string,.s s=>
   (uI s.length (λh=>Nat.ble h s.length) lo hi).map λ(l,h)=>.s ((s.take h).drop l)
 | some (.slice e),.sl id off len cap=>
   match sizeT P e,cap with
   | some size,some c=>
     (uI len (λh=>Nat.ble h c) lo hi).bind λ(l,h)=>
      if c=l then some (.sl id off (h - l) (some 0)) else some (.sl id (off+l * size) (h - l) (some (c - l)))
   | some size,none=>
     match σ.get id with
     | some (.cells _ et _ true)=>if et=e then
        (uI len (λh=>Nat.ble h len) lo hi).bind λ(l,h)=>
         if l < len then some (.sl id (off+l * size) (h - l) none) else if l=0 then some (.sl id off (h - l) none) else if h=l then some (.ro []) else none
       else none
     | _=>none
   | none,_=>none
 | some (.slice e),.dA=>match sizeT P e with
   | some _=>(uI 0 (λh=>Nat.ble h 0) lo hi).map λ_=>.dA
   | none=>none
 | some (.slice e),.ro es=>match sizeT P e with
   | some size=>(uI es.length (λh=>Nat.ble h es.length) lo hi).bind λ(l,h)=>LM size es l h
   | none=>none
 | some (.array n e),.p id off=>match sizeT P e with
   | some size=>(uI n (λh=>Nat.ble h n) lo hi).map λ(l,h)=>
      if n=l then .sl id off (h - l) (some 0) else .sl id (off+l * size) (h - l) (some (n - l))
   | none=>none
 | _,_=>none
def Ls (P:Program) (t:TypeId) (x:AV) (f:Nat):Option AV:=
 match P.underlying t,x with
 | some (.struct fields),.p id off=>
   match fields[f]? with
   | some fd=>match sizeT P fd.type with
     | some n=>if n=0 then none else some (.p id (off+fd.offset))
     | none=>none
   | none=>none
 | some (.struct fields),.rp a off=>
   match fields[f]? with
   | some fd=>match sizeT P fd.type with
     | some n=>if n=0 then none else some (.rp a (off+fd.offset))
     | none=>none
   | none=>none
 | _,_=>none
def Lr (P:Program) (t:TypeId) (x:AV) (f:Nat):Option AV:=
 match P.underlying t,x with
 | some (.struct fields),.agg cs=>
   match fields[f]? with
   | some fd=>LK P fd.type cs fd.offset
   | none=>none
 | _,_=>none
def xQ (P:Program) (t:TypeId) (x ix:AV):Option AV:=
 match P.underlying t,x,sQ ix with
 | some (.slice e),.sl id off len _,some k=>
   match sizeT P e with
   | some size=>if 0<=k/\k < len then some (.p id (off+k.toNat * size)) else none
   | none=>none
 | some (.array len e),.p id off,some k=>
   match sizeT P e with
   | some size=>if 0<=k/\k < len then some (.p id (off+k.toNat * size)) else none
   | none=>none
 | some (.slice e),.ro l,some k=>
   match sizeT P e with
   | some size=>if 0<=k then match l[k.toNat]? with
     | some a=>if a.cells.length=size then some (.rp a 0) else none
     | none=>none
     else none
   | none=>none
 | some (.array len e),.rp a off,some k=>
   match sizeT P e with
   | some size=>if 0<=k/\k < len then some (.rp a (off+k.toNat * size)) else none
   | none=>none
 | _,_,_=>none
def Aq (P:Program) (t:TypeId) (x ix:AV):Option AV:=
 match P.underlying t,x,sQ ix with
 | some .string,.s s,some k=>
   if 0<=k then match s[k.toNat]? with
    | some c=>some (.i .u8 c.toNat)
    | none=>none
   else none
 | some (.array len e),.agg cs,some k=>
   match sizeT P e with
   | some size=>if 0<=k/\k < len then LK P e cs (k.toNat * size) else none
   | none=>none
 | _,_,_=>none
def vN (P:Program) (src dst:TypeId) (x:AV) (σ:aj):Option (AV×aj):=
 match P.underlying src,P.underlying dst,x with
 | some _,some (.int k),.i _ n=>some (.i k (k.wrap n),σ)
 | some .string,some .string,.s s=>some (.s s,σ)
 | some .string,some (.slice e),.s s=>
   match P.underlying e with
   | some (.int .u8)=>if e≠0/\sizeT P e=some 1 then some (.sl σ.next 0 s.length none,σ.new (.cells (sZ s) e true true)) else none
   | _=>none
 | some (.slice e),some .string,.dA=>
   match P.underlying e with
   | some (.int .u8)=>some (.s [],σ)
   | _=>none
 | some (.slice e),some .string,.sl id off len _=>
   match P.underlying e,σ.get id with
   | some (.int .u8),some (.cells c _ _ _)=>match takeN c off len with
     | some r=>(bytesOf r).map λb=>(.s b,σ)
     | none=>none
   | _,_=>none
 | some (.slice e),some .string,.ro l=>
   match P.underlying e with
   | some (.int .u8)=>(bytesOf l).map λb=>(.s b,σ)
   | _=>none
 | some (.pointer t),some .unsafePointer,.p id off=>
   match σ.get id,sizeT P t with
   | some (.cells c et _ false),some n=>if et≠0/\off < c.length/\n≠0 then some (.p id off,σ) else none
   | _,_=>none
 | some .unsafePointer,some (.pointer u),.p id off=>
   match σ.get id,sizeT P u with
   | some (.cells c et _ false),some _=>if et≠0/\liesAt P P.depth et (c.length / P.cellsOf et) off u 1=true then some (.p id off,σ) else none
   | _,_=>none
 | _,_,_=>none
def MN (op:BinOp) (a b c d:Int):Option AV:=
 match op with
 | .lss=>if b < c then some (.b true) else if d<=a then some (.b false) else none
 | .leq=>if b<=c then some (.b true) else if d < a then some (.b false) else none
 | .gtr=>if d < a then some (.b true) else if b<=c then some (.b false) else none
 | .geq=>if d<=a then some (.b true) else if b < c then some (.b false) else none
 | .eql=>if b < c\/d < a then some (.b false) else none
 | .neq=>if b < c\/d < a then some (.b true) else none
 | _=>none
def qG (P:Program) (op:BinOp) (t:TypeId) (x y:Operand) (a b:AV):Option AV:=
 match op,a,b with
 | .eql,.p id off,.p id' off'=>match P.underlying t with
   | some (.pointer e)=>match sizeT P e with
     | some n=>if id=id'/\n≠0 then some (.b (off==off')) else none
     | none=>none
   | _=>none
 | .neq,.p id off,.p id' off'=>match P.underlying t with
   | some (.pointer e)=>match sizeT P e with
     | some n=>if id=id'/\n≠0 then some (.b (!(off==off'))) else none
     | none=>none
   | _=>none
 | .eql,.p _ _,.iO | .eql,.iO,.p _ _=>match P.underlying t with
   | some (.pointer _)=>some (.b false)
   | _=>none
 | .neq,.p _ _,.iO | .neq,.iO,.p _ _=>match P.underlying t with
   | some (.pointer _)=>some (.b true)
   | _=>none
 | .eql,.ro (_::_),.dA | .eql,.dA,.ro (_::_)=>match P.underlying t with
   | some (.slice _)=>some (.b false)
   | _=>none
 | .neq,.ro (_::_),.dA | .neq,.dA,.ro (_::_)=>match P.underlying t with
   | some (.slice _)=>some (.b true)
   | _=>none
 | .eql,.rp _ _,.iO | .eql,.iO,.rp _ _=>match P.underlying t with
   | some (.pointer _)=>some (.b false)
   | _=>none
 | .neq,.rp _ _,.iO | .neq,.iO,.rp _ _=>match P.underlying t with
   | some (.pointer _)=>some (.b true)
   | _=>none
 | .eql,.sl ..,.dA | .eql,.dA,.sl ..=>match P.underlying t with
   | some (.slice _)=>some (.b false)
   | _=>none
 | .neq,.sl ..,.dA | .neq,.dA,.sl ..=>match P.underlying t with
   | some (.slice _)=>some (.b true)
   | _=>none
 | .eql,.dO _ _,.qy | .eql,.qy,.dO _ _=>match P.underlying t with
   | some (.interface _)=>some (.b false)
   | _=>none
 | .neq,.dO _ _,.qy | .neq,.qy,.dO _ _=>match P.underlying t with
   | some (.interface _)=>some (.b true)
   | _=>none
 | .eql,.mp _,.nY | .eql,.nY,.mp _=>match P.underlying t with
   | some (.map _ _)=>some (.b false)
   | _=>none
 | .neq,.mp _,.nY | .neq,.nY,.mp _=>match P.underlying t with
   | some (.map _ _)=>some (.b true)
   | _=>none
 | _,.z k lo hi,.i k' n=>if k=k' then MN op lo hi n n else none
 | _,.i k n,.z k' lo hi=>if k=k' then MN op n n lo hi else none
 | _,_,_=>
   match uj a,uj b with
   | some u,some v=>(og P (do eqGuard op t x y u v;binOp op t u v)).bind (jK 4)
   | _,_=>none
def JG:AV->AV->Option Bool
 | .i k a,.i k' b=>if k=k' then some (a==b) else none
 | .s a,.s b=>some (a==b)
 | .b a,.b b=>some (a==b)
 | .z k lo hi,.i k' b=>if k=k'/\(b < lo\/hi < b) then some false else none
 | _,_=>none
def yj (k:AV):List (AV×AV)->Nat->Option (Option (Nat×AV))
 | [],_=>some none
 | e::es,i=>match JG k e.1 with
   | some true=>some (some (i,e.2))
   | some false=>yj k es (i+1)
   | none=>none
def FN (P:Program) (t:TypeId) (k:AV):Bool:=
 match P.underlying t,k with
 | some (.int _),.i _ _ | some (.int _),.z _ _ _ | some .string,.s _ | some .bool,.b _=>true
 | _,_=>false
def LC (P:Program) (t:TypeId) (m k:AV) (ok:Bool) (σ:aj):Option AV:=
 match P.underlying t with
 | some (.map kt et)=>
   match (match m with | .nY=>some [] | .mp id=>(match σ.get id with | some (.map es)=>some es | _=>none) | _=>none) with
   | some es=>
     if FN P kt k then
      match yj k es 0 with
      | some (some (_,v))=>some (if ok then .cO [v,.b true] else v)
      | some none=>
        match P.info? et with
        | some i=>match i.zero with
          | some z=>(jK 4 z).map λz=>if ok then .cO [z,.b false] else z
          | none=>none
        | none=>none
      | none=>none
     else none
   | none=>none
 | _=>none
def EX (P:Program) (t:TypeId) (m k v:AV) (σ:aj):Option aj:=
 match P.underlying t,m with
 | some (.map kt _),.mp id=>
   match σ.get id with
   | some (.map es)=>
     if σ.lock<=id/\FN P kt k then
      match yj k es 0 with
      | some (some (i,_))=>some (σ.put id (.map (es.set i (k,v))))
      | some none=>some (σ.put id (.map (es++[(k,v)])))
      | none=>none
     else none
   | _=>none
 | _,_=>none
def DI (P:Program) (t:TypeId):Option Bool:=
 match P.underlying t with
 | some (.interface _)=>some true
 | some _=>some false
 | none=>none
def LP (P:Program) (x:AV) (t:TypeId) (ok:Bool):Option AV:=
 match DI P t,x with
 | some false,.dO u v=>
   if u=t then some (if ok then .cO [v,.b true] else v)
   else if ok then match P.info? t with
    | some i=>match i.zero with
      | some z=>(jK 4 z).map λz=>.cO [z,.b false]
      | none=>none
    | none=>none
   else none
 | some false,.qy=>
   if ok then match P.info? t with
    | some i=>match i.zero with
      | some z=>(jK 4 z).map λz=>.cO [z,.b false]
      | none=>none
    | none=>none
   else none
 | _,_=>none
def LH (it:AV) (σ:aj):Option (AV×aj):=
 match it with
 | .p id 0=>
   match σ.get id with
   | some (.iter s pos)=>
     if σ.lock<=id then
      if pos < s.length then
       let r:=Utf8.decode ⟨⟨s⟩⟩ pos
       some (.cO [.b true,.i .i64 pos,.i .i32 r.1],σ.put id (.iter s (pos+r.2)))
      else some (.cO [.b false],σ)
     else none
   | _=>none
 | _=>none
def QJ (P:Program) (argTypes:Array TypeId) (d x:AV) (σ:aj):Option (AV×aj):=
 match argTypes[0]? with
 | some t=>
   match tu P t,d with
   | some (_,size,_,_),.sl id off dLen _=>
     match wo σ size x,σ.get id with
     | some (n,new),some (.cells c et true opn)=>
       let k:=Nat.min n dLen
       if size=0 then none else
       if σ.lock<=id/\new.all AV.kK then
        (xA c off (new.take (k * size))).map λc'=>(.i .i64 k,σ.put id (.cells c' et true opn))
       else none
     | _,_=>none
   | some (_,size,_,_),.dA=>match wo σ size x with
     | some _=>some (.i .i64 0,σ)
     | none=>none
   | _,_=>none
 | none=>none
def QI (P:Program) (t:TypeId) (x:AV) (σ:aj):Option (AV×aj):=
 match P.underlying t,x with
 | some (.slice _),.dA=>some (.cO [],σ)
 | some (.slice _),.ro []=>some (.cO [],σ)
 | some (.slice e),.sl id off n _=>
   if n=0 then some (.cO [],σ) else
   match wB P e,σ.get id with
   | some z,some (.cells c et true opn)=>
     if σ.lock<=id/\z.all AV.kK then
      (xA c off (ig n z)).map λc'=>(.cO [],σ.put id (.cells c' et true opn))
     else none
   | _,_=>none
 | some (.map _ _),.nY=>some (.cO [],σ)
 | some (.map _ _),.mp id=>match σ.get id with
   | some (.map _)=>if σ.lock<=id then some (.cO [],σ.put id (.map [])) else none
   | _=>none
 | _,_=>none
def Rl (m m':Nat):Bool:=match fB.nodes[m]?,fB.nodes[m']? with
 | some (.ci k a),some (.ci k' b)=>Nat.beq (kc k) (kc k')&&!(DF a b)
 | some (.cs a),some (.cs b)=>!(xX a b)
 | _,_=>false
def BG (n m:Nat):List (Nat×Bool)->Bool
 | []=>false
 | p::l=>(bif p.2 then (match fB.nodes[p.1]? with
   | some (.bin .eql n' m')=>Nat.beq n n'&&Rl m m'
   | _=>false) else false) || BG n m l
def AQ:BinOp->Option BinOp
 | .eql=>some .neq
 | .neq=>some .eql
 | .lss=>some .geq
 | .geq=>some .lss
 | .leq=>some .gtr
 | .gtr=>some .leq
 | _=>none
def Fj (c n m:Nat):List (Nat×Bool)->Option Bool
 | []=>none
 | p::l=>match fB.nodes[p.1]? with
   | some (.bin op n' m')=>bif Nat.beq n n'&&Nat.beq m m'&&Nat.beq (rV op) c then some p.2 else Fj c n m l
   | _=>Fj c n m l
def Ku (op:BinOp) (n m:Nat):Option Bool:=match AQ op with
 | some op'=>(Fj (rV op') n m fB.dec).map λb=>!b
 | none=>none
def VD (x:Nd):Option Bool:=match x with
 | .bin .eql n m=>bif BG n m fB.dec then some false else Ku .eql n m
 | .bin .neq n m=>bif BG n m fB.dec then some true else Ku .neq n m
 | .bin op n m=>Ku op n m
 | _=>none
def iR (x:Nd):Option AV:=
 match dP x with
 | some n=>match Ro n with
   | some b=>some (.b b)
   | none=>match VD x with
     | some b=>some (.b b)
     | none=>some (.nd n)
 | none=>none
def gB:AV->Option Nat
 | .nd n=>some n
 | .i k n=>dP (.ci k n)
 | .b x=>dP (.cb x)
 | .s x=>dP (.cs x)
 | .dA=>dP (.ml [])
 | _=>none
def nodesOf:List AV->Option (List Nat)
 | []=>some []
 | a::l=>match gB a,nodesOf l with
   | some n,some r=>some (n::r)
   | _,_=>none
def Au:AV->Option Nat
 | .agg l=>match nodesOf l with
   | some ns=>dP (.mk ns)
   | none=>none
 | _=>none
def rY:Nat->Nat->Nat->Bool
 | 0,m,n=>Nat.beq m n
 | f+1,m,n=>Nat.beq m n || match fB.nodes[m]? with
   | some (.upd _ _ a _ _)=>rY f a n
   | some (.same a _)=>rY f a n
   | _=>false
def elemsOf (agg:Bool) (size:Nat):Nat->List AV->Option (List Nat)
 | 0,_=>some []
 | n+1,cs=>match (if agg then Au (.agg (cs.take size)) else (cs.head?).bind gB),elemsOf agg size n (cs.drop size) with
   | some a,some r=>some (a::r)
   | _,_=>none
def listOf (P:Program) (σ:aj) (e:TypeId):AV->Option Nat
 | .nd n=>some n
 | .dA=>dP (.ml [])
 | .sv id n=>match σ.get id with
   | some (.vec m et _)=>if Nat.beq e et&&rY 100 m n then some m else none
   | _=>none
 | .sl id off len _=>match σ.get id,sizeT P e,ng P e with
   | some (.cells c et _ _),some size,some agg=>if Nat.beq e et&&((agg&&Nat.blt 0 size) || Nat.beq size 1) then match takeN c off (len * size) with
     | some cs=>match elemsOf agg size len cs with
       | some ns=>dP (.ml ns)
       | none=>none
     | none=>none
     else none
   | _,_,_=>none
 | _=>none
def ahJ (a:AV):Bool:=
 match a with
 | .nd _ | .rx _ _ | .sv _ _ | .pv _ _ _ | .pd _ _=>true
 | _=>false
def Vd (P:Program) (t:TypeId):Option Nat:=
 match P.underlying t with
 | some (.int _)=>some 0
 | some .string=>some 1
 | some .bool=>some 2
 | _=>none
def Hw (P:Program):List Field->Nat->Option (List Nat)
 | [],_=>some []
 | f::fs,k=>if !(f.name == "_")&&Nat.beq f.offset k then match Vd P f.type,Hw P fs (k+1) with
   | some a,some r=>some (a::r)
   | _,_=>none
   else none
def Py (P:Program) (op:BinOp) (t:TypeId) (a b:AV):Option AV:=
 match P.underlying t with
 | some (.int _) | some .string=>match gB a,gB b with
   | some x,some y=>iR (.bin op x y)
   | _,_=>none
 | some .bool=>match gB a,gB b with
   | some x,some y=>iR (.Az op x y)
   | _,_=>none
 | some (.struct fs)=>if !(P.stoodInHeld t)&&!(P.eqGuardType P.depth t) then match Hw P fs.toList 0,Au a,Au b with
    | some ks,some x,some y=>iR (.AA op ks x y)
    | _,_,_=>none
   else none
 | some (.pointer _)=>match op,a,b with
   | .eql,.rx _ _,.iO | .eql,.iO,.rx _ _=>some (.b false)
   | .neq,.rx _ _,.iO | .neq,.iO,.rx _ _=>some (.b true)
   | .eql,.pv _ _ _,.iO | .eql,.iO,.pv _ _ _=>some (.b false)
   | .neq,.pv _ _ _,.iO | .neq,.iO,.pv _ _ _=>some (.b true)
   | _,_,_=>none
 | _=>none
def Ie (op:UnOp) (a:AV):Option AV:=
 match a with
 | .nd n=>iR (.un op n)
 | _=>none
def Pz (P:Program) (src dst:TypeId) (x:AV) (σ:aj):Option (AV×aj):=
 match P.underlying src,P.underlying dst,x with
 | some _,some (.int k),.nd n=>(iR (.conv k n)).map (·,σ)
 | some .string,some .string,.nd n=>(iR (.zU n)).map (·,σ)
 | some .string,some (.slice e),.nd n=>
   match P.underlying e with
   | some (.int .u8)=>if e≠0/\sizeT P e=some 1 then match dP (.bytes n) with
      | some m=>some (.sv σ.next m,σ.new (.vec m e false))
      | none=>none
     else none
   | _=>none
 | some (.slice e),some .string,x=>
   match P.underlying e with
   | some (.int .u8)=>match listOf P σ e x with
      | some m=>(iR (.str m)).map (·,σ)
      | none=>none
   | _=>none
 | _,_,_=>none
def V4 (P:Program) (t:TypeId) (x:AV):Option AV:=
 match P.underlying t,x with
 | some .string,.nd n=>iR (.slen n)
 | some (.slice _),.nd n=>iR (.len n)
 | some (.slice _),.sv _ n=>iR (.len n)
 | _,_=>none
def dB (a:Option AV):Option AV:=
 match a with
 | some (.nd n)=>match Ro n with
   | some b=>some (.b b)
   | none=>none
 | x=>x
def Gl (i:Nat):Nat->Nat->Option AV
 | 0,_=>none
 | c+1,j=>match iR (.wZ i j) with
   | some (.b true)=>some (.i .i64 j)
   | some (.b false)=>Gl i c (j+1)
   | some (.nd m)=>match dB (some (.nd m)) with
     | some (.b true)=>some (.i .i64 j)
     | some (.b false)=>Gl i c (j+1)
     | _=>none
   | _=>none
def PE (P:Program) (t:TypeId) (x ix:AV):Option AV:=
 match P.underlying t with
 | some .string=>match gB x,gB ix with
   | some n,some i=>iR (.BL n i)
   | _,_=>none
 | some (.array len _)=>match gB ix with
   | some i=>match Gl i len 0 with
     | some k=>Aq P t x k
     | none=>none
   | none=>none
 | _=>none
def I7:Option AV->Option Nat
 | none=>dP (.ci .i64 0)
 | some a=>gB a
def Mc (x:Nd):Option AV->Option Nat
 | none=>dP x
 | some a=>gB a
def KD (P:Program) (t:TypeId) (x:AV) (lo hi:Option AV):Option AV:=
 match P.underlying t with
 | some .string=>match gB x with
   | some n=>match I7 lo,Mc (.slen n) hi with
     | some l,some h=>iR (.BM n l h)
     | _,_=>none
   | none=>none
 | some (.slice e)=>match x,sizeT P e with
   | .nd n,some size=>match I7 lo,Mc (.len n) hi with
     | some l,some h=>iR (.zF size n l h)
     | _,_=>none
   | _,_=>none
 | _=>none
def PU (P:Program) (t:TypeId) (σ:aj) (x:AV) (lo hi:Option AV):Option (AV×aj):=
 match P.underlying t,x with
 | some (.slice e),.sv id n=>match σ.get id,sizeT P e with
   | some (.vec m et f),some size=>if Nat.beq e et&&rY 100 m n&&Nat.ble σ.lock id then
      match lo with
      | none=>match I7 none,Mc (.len m) hi with
        | some z,some h=>(dP (.zF size m z h)).map λk=>(.sv id k,σ.put id (.vec k et f))
        | _,_=>none
      | some _=>(KD P t (.nd m) lo hi).map (·,σ.kill id)
     else none
   | _,_=>none
 | _,_=>none
def PD (P:Program) (t:TypeId) (x:AV) (f:Nat):Option AV:=
 match P.underlying t with
 | some (.struct fields)=>
   match fields[f]? with
   | some fd=>match sizeT P fd.type with
     | some n=>if n=0 then none else match x with
       | .rx m off=>some (.rx m (off+fd.offset))
       | .pv id m off=>some (.pv id m (off+fd.offset))
       | _=>none
     | none=>none
   | none=>none
 | _=>none
def PI (P:Program) (σ:aj) (t:TypeId) (x ix:AV):Option AV:=
 match P.underlying t with
 | some (.slice e)=>match sizeT P e,gB ix with
   | some size,some i=>match x with
     | .nd n=>(dP (.at size n i)).map λm=>.rx m 0
     | .sv id n=>match σ.get id with
       | some (.vec _ et _)=>if Nat.beq e et then (dP (.idx n i)).map λm=>.pv id m 0 else none
       | _=>none
     | _=>none
   | _,_=>none
 | some (.array len _)=>match gB ix with
   | some i=>match Gl i len 0 with
     | some k=>xQ P t x k
     | none=>none
   | none=>none
 | _=>none
def Dc (m:Nat):Nat->Nat->Option (List AV)
 | _,0=>some []
 | off,n+1=>match iR (.cell off m),Dc m (off+1) n with
   | some a,some r=>some (a::r)
   | _,_=>none
def KC (P:Program) (t:TypeId) (m off:Nat):Option AV:=
 match ng P t with
 | some true=>match sizeT P t with
   | some n=>(Dc m off n).map .agg
   | none=>none
 | some false=>iR (.cell off m)
 | none=>none
def PK (P:Program) (t:TypeId) (σ:aj) (a:AV):Option AV:=
 match a with
 | .rx m off=>KC P t m off
 | .pv id i off=>match σ.get id with
   | some (.vec m et _)=>match sizeT P et with
     | some size=>match dP (.at size m i) with
       | some x=>KC P t x off
       | none=>none
     | none=>none
   | _=>none
 | _=>none
def JF (P:Program) (kt:TypeId) (k:AV):Option (Nat×Option IntKind):=
 match P.underlying kt,gB k with
 | some (.int kk),some n=>match dP (.ci kk 0) with
   | some z=>(dP (.bin .eql n z)).map λ_=>(n,some kk)
   | none=>none
 | some .string,some n=>match dP (.cs []) with
   | some z=>(dP (.bin .eql n z)).map λ_=>(n,none)
   | none=>none
 | _,_=>none
def TD (n:Nat) (e:AV):Option Bool:=
 match gB e with
 | some m=>match (iR (.bin .eql n m)) with
   | some (.b b)=>some b
   | some (.nd j)=>match dB (some (.nd j)) with
     | some (.b b)=>some b
     | _=>none
   | _=>none
 | none=>none
def FK (n:Nat):List (AV×AV)->Nat->Option (Option (Nat×AV))
 | [],_=>some none
 | e::es,i=>match TD n e.1 with
   | some true=>some (some (i,e.2))
   | some false=>FK n es (i+1)
   | none=>none
def KL (P:Program) (et:TypeId) (v:AV):Option (Nat×Option Nat):=
 match ng P et with
 | some true=>match Au v,sizeT P et with
   | some n,some k=>if Nat.beq v.cells.length k then some (n,some k) else none
   | _,_=>none
 | some false=>(gB v).map (·,none)
 | none=>none
def Gi:Option IntKind->Option IntKind->Bool
 | none,none=>true
 | some a,some b=>Nat.beq (kc a) (kc b)
 | _,_=>false
def KE:Option Nat->Option Nat->Bool
 | none,none=>true
 | some a,some b=>Nat.beq a b
 | _,_=>false
def KP (P:Program) (et:TypeId):Option AV:=
 match P.info? et with
 | some i=>match i.zero with
   | some z=>jK 4 z
   | none=>none
 | none=>none
def PN (P:Program) (t:TypeId) (m k:AV) (ok:Bool) (σ:aj):Option AV:=
 match P.underlying t,m with
 | some (.map kt et),.mp id=>
   match JF P kt k,σ.get id with
   | some (n,_),some (.map es)=>match FK n es 0 with
     | some (some (_,v))=>some (if ok then .cO [v,.b true] else v)
     | some none=>(KP P et).map λz=>if ok then .cO [z,.b false] else z
     | none=>none
   | some (n,kk),some (.pmap es)=>
     if Gi kk none then match FK n (es.map λe=>(AV.s e.1,e.2)) 0 with
      | some (some (_,v))=>some (if ok then .cO [v,.b true] else v)
      | some none=>(KP P et).map λz=>if ok then .cO [z,.b false] else z
      | none=>none
     else none
   | some (n,kk),some (.smap j zC sz)=>
     if Gi kk zC then match (KP P et).bind (KL P et) with
      | some (z,sz')=>if KE sz sz' then match (dP (.BA z j n)).bind λg=>KC P et g 0 with
        | some v=>if ok then match iR (.BD j n) with
           | some b=>some (.cO [v,b])
           | none=>none
          else some v
        | none=>none
        else none
      | none=>none
     else none
   | _,_=>none
 | _,_=>none
def PS (P:Program) (t:TypeId) (m k v:AV) (σ:aj):Option aj:=
 match P.underlying t,m with
 | some (.map kt et),.mp id=>
   if Nat.ble σ.lock id then
    match JF P kt k,KL P et v,σ.get id with
    | some (n,kk),some (u,sz),some (.map [])=>match dP (.ml []) with
      | some j=>(dP (.yx j n u)).map λj'=>σ.put id (.smap j' kk sz)
      | none=>none
    | some (n,kk),some (u,sz),some (.smap j zC sz')=>
      if Gi kk zC&&KE sz sz' then (dP (.yx j n u)).map λj'=>σ.put id (.smap j' kk sz) else none
    | _,_,_=>none
   else none
 | _,_=>none
def mapArg (v:AV):Bool:=match v with
 | .nd n=>(match fB.nodes[n]? with
   | some (.len _)=>true
   | _=>false)
 | v=>(sQ v).isSome
def PV (P:Program) (t:TypeId) (σ:aj) (a v:AV):Option aj:=
 match a with
 | .pv id i off=>match σ.get id with
   | some (.vec m et f)=>
     if σ.lock<=id/\sizeT P t=some v.cells.length then
      match sizeT P et,nodesOf v.cells with
      | some size,some vs=>match dP (.upd size off m i vs) with
        | some m'=>some (σ.put id (.vec m' et f))
        | none=>none
      | _,_=>none
     else none
   | _=>none
 | _=>none
def VZ (P:Program) (argTypes:Array TypeId) (s x:AV) (σ:aj):Option (AV×aj):=
 match argTypes.toList with
 | [t,t1]=>
   match tu P t with
   | some (e,size,bytes,_)=>
     if size=0 then none else
     match (match P.underlying t1 with
      | some .string=>if size=1 then match gB x with
         | some n=>dP (.bytes n)
         | none=>none
        else none
      | some (.slice _)=>listOf P σ e x
      | _=>none) with
     | none=>none
     | some b=>
       match s with
       | .dA=>match dP (.ml []) with
         | some a=>(dP (.app size bytes a b)).map λm=>(.sv σ.next m,σ.new (.vec m e true))
         | none=>none
       | .sv id n=>match σ.get id with
         | some (.vec a et f)=>if Nat.beq et e&&rY 100 a n&&Nat.ble σ.lock id then (dP (.app size bytes a b)).map λm=>(.sv σ.next m,(σ.kill id).new (.vec m e f)) else none
         | _=>none
       | .sl id 0 0 (some 0)=>match σ.get id with
         | some (.cells [] et true false)=>if Nat.beq et e&&Nat.ble σ.lock id then match dP (.ml []) with
           | some a=>(dP (.app size bytes a b)).map λm=>(.sv σ.next m,(σ.kill id).new (.vec m e false))
           | none=>none
           else none
         | _=>none
       | .sl id 0 len none=>match σ.get id with
         | some (.cells c et true true)=>if Nat.beq et e&&Nat.ble σ.lock id&&Nat.beq c.length (len * size) then match listOf P σ e (.sl id 0 len none) with
           | some a=>(dP (.app size bytes a b)).map λm=>(.sv σ.next m,(σ.kill id).new (.vec m e false))
           | none=>none
           else none
         | _=>none
       | _=>none
   | none=>none
 | _=>none
def Ot (P:Program) (e:TypeId) (size len:Nat) (cs:List AV):Option Nat:=
 if cs.any ahJ then
  match ng P e with
  | some agg=>if ((agg&&Nat.blt 0 size) || Nat.beq size 1)&&Nat.blt 0 len&&Nat.beq cs.length (len * size) then match elemsOf agg size len cs with
    | some ns=>dP (.ml ns)
    | none=>none
    else none
  | none=>none
 else none
def Ov (P:Program) (σ:aj) (e:TypeId) (size len:Nat) (cs:List AV):Option AV×aj:=
 match Ot P e size len cs with
 | some m=>(some (.sv σ.next m),σ.new (.vec m e false))
 | none=>(some (.sl σ.next 0 len (some len)),σ.new (.cells cs e true false))
def PO (P:Program) (t:TypeId) (len cap:AV) (σ:aj):Option (AV×aj):=
 match P.underlying t with
 | some (.slice e')=>match tu P t,ng P e' with
   | some (e,size,bytes,z),some agg=>
     if size=0 then none else
     match (if agg then Au (.agg z) else (z.head?).bind gB),gB len,gB cap with
     | some zn,some l,some c=>(dP (.rep size bytes zn l c)).map λm=>(.sv σ.next m,σ.new (.vec m e false))
     | _,_,_=>none
   | _,_=>none
 | _=>none
def Ej (P:Program) (b:Builtin) (argTypes:Array TypeId) (args:List AV) (σ:aj):Option (Option AV×aj):=
 match b,args with
 | .len,[x]=>match argTypes[0]? with
   | some t=>(V4 P t x).map λv=>(some v,σ)
   | none=>none
 | .append,[s,x]=>(VZ P argTypes s x σ).map λr=>(some r.1,r.2)
 | .min,[x,y]=>match gB x,gB y with
   | some m,some n=>(iR (.mm false m n)).map λv=>(some v,σ)
   | _,_=>none
 | .max,[x,y]=>match gB x,gB y with
   | some m,some n=>(iR (.mm true m n)).map λv=>(some v,σ)
   | _,_=>none
 | .unsafeSliceData,[.sv id n]=>match σ.get id with
   | some (.vec m _ true)=>if rY 100 m n then some (some (.pd id n),σ) else none
   | _=>none
 | .unsafeString,[.pd id n,.nd k]=>
   match argTypes.toList with
   | [t,_]=>
     match P.underlying t,σ.get id with
     | some (.pointer e),some (.vec m et _)=>
       if et=e/\e≠0/\P.cellsOf e=1/\σ.lock<=id then
        match fB.nodes[k]? with
        | some (.len n')=>if rY 100 m n&&rY 100 m n' then (iR (.str m)).map λv=>(some v,σ.kill id) else none
        | _=>none
       else none
     | _,_=>none
   | _=>none
 | _,_=>none
def LG (P:Program) (name:String) (σ:aj):AV->Option (FuncId×AV)
 | .dO t v=>
   match P.info? t,P.underlying t with
   | some i,some d=>match i.methods.find? (·.name==name) with
     | some m=>match m.path.toList,m.func with
       | [],some (f,ptr)=>match d,ptr with
         | .pointer _,true=>some (f,v)
         | .pointer e,false=>match v with
           | .p id off=>(sU P e σ (.p id off)).map λx=>(f,x)
           | _=>none
         | _,true=>none
         | _,false=>some (f,v)
       | _,_=>none
     | none=>none
   | _,_=>none
 | _=>none
abbrev Caller:=FuncId->List AV->aj->Option (AV×aj)
def bV (σ:aj):Option AV->Option (Option AV×aj):=Option.map λv=>(some v,σ)
def qA:Option (AV×aj)->Option (Option AV×aj):=Option.map λ(v,σ)=>(some v,σ)
def Ec:Option aj->Option (Option AV×aj):=Option.map λσ=>(none,σ)
def Cm (P:Program) (b:Builtin) (argTypes:Array TypeId) (args:List AV) (σ:aj):Option (Option AV×aj):=
 match b,args with
 | .len,[x]=>match argTypes[0]? with
   | some t=>bV σ (Lu P σ t x)
   | none=>none
 | .append,[s,x]=>qA (QH P argTypes s x σ)
 | .copy,[d,x]=>qA (QJ P argTypes d x σ)
 | .clear,[x]=>match argTypes[0]? with
   | some t=>qA (QI P t x σ)
   | none=>none
 | .cap,[x]=>match argTypes[0]? with
   | some t=>match P.underlying t,x with
     | some (.slice _),.dA=>bV σ (some (.i .i64 0))
     | some (.slice _),.sl _ _ _ (some c)=>bV σ (some (.i .i64 c))
     | _,_=>none
   | none=>none
 | .unsafeSliceData,[.dA]=>bV σ (some .iO)
 | .unsafeSliceData,[.sl id off n cap]=>if n=0/\(cap=none\/cap=some 0) then none else bV σ (some (.p id off))
 | .unsafeString,[x,.i .i64 n]=>
   match argTypes.toList with
   | [t,_]=>
     if n=0 then (match x with
      | .iO=>bV σ (some (.s []))
      | .p _ _=>bV σ (some (.s []))
      | _=>none)
     else match x with
     | .p id off=>match P.underlying t,σ.get id with
       | some (.pointer e),some (.cells c et true opn)=>
         if et=e/\e≠0/\P.cellsOf e=1/\0 < n/\n < 2 ^ 62/\σ.lock<=id then
          match takeN c off n.toNat with
          | some r=>match bytesOf r with
            | some b=>some (some (.s b),σ.put id (.cells c et false opn))
            | none=>none
          | none=>none
         else none
       | _,_=>none
     | _=>none
   | _=>none
 | .min,[x,y]=>match uj x,uj y with
   | some u,some v=>bV σ ((og P (Builtin.min_ #[] 0 #[u,v])).bind (jK 4))
   | _,_=>none
 | .max,[x,y]=>match uj x,uj y with
   | some u,some v=>bV σ ((og P (Builtin.max_ #[] 0 #[u,v])).bind (jK 4))
   | _,_=>none
 | .min,[x,y,z]=>match uj x,uj y,uj z with
   | some u,some v,some t=>bV σ ((og P (Builtin.min_ #[] 0 #[u,v,t])).bind (jK 4))
   | _,_,_=>none
 | _,_=>none
def V3 (b:Builtin) (args:List AV):Bool:=
 match b,args with
 | .append,.dA::_=>!(fB.nodes.isEmpty)
 | _,_=>false
def iP {α:Type} (a:Option α) (b:Unit->Option α):Option α:=
 match a with
 | some x=>some x
 | none=>b ()
theorem rW {α:Type} {a:Option α} {b:Unit->Option α} {x:α} (h:iP a b=some x):a=some x\/b ()=some x:=by
 unfold iP at h;split at h
 ·exact .inl h
 ·exact .inr h
def oV (P:Program) (call:Caller) (o:Oper) (ev:Operand->Option AV) (σ:aj):Option (Option AV×aj):=
 match o.op with
 | .move x | .assign x=>bV σ (ev x)
 | .pick c a b=>match dB (ev c) with
   | some (.b t)=>bV σ (if t then ev a else ev b)
   | _=>none
 | .alloc t=>(wB P t).map λz=>(some (.p σ.next 0),σ.new (.cells z t true false))
 | .box t x=>(ev x).map λv=>(some (.p σ.next 0),σ.new (.cells v.cells t true false))
 | .build t parts=>match Ba ev parts.toList with
   | some ps=>bV σ (Lm P t ps)
   | none=>none
 | .buildSlice t len parts=>
   match tu P t,Ba ev parts.toList with
   | some (e,size,_,z),some ps=>
     if len * size > 2 ^ 24 then none else
     match xO (λi=>some (i * size,size)) (if len * size=0 then [] else ig len z) ps with
     | some cs=>some (Ov P σ e size len cs)
     | none=>none
   | _,_=>none
 | .load t a=>match ev a with
   | some a=>bV σ (iP (sU P t σ a) λ_=>PK P t σ a)
   | none=>none
 | .store t a x=>match ev a,ev x with
   | some a,some v=>Ec (iP (Ar P t σ a v) λ_=>PV P t σ a v)
   | _,_=>none
 | .nilCheck x=>match ev x with
   | some (.p id off)=>bV σ (some (.p id off))
   | some (.rp a off)=>bV σ (some (.rp a off))
   | some (.rx m off)=>bV σ (some (.rx m off))
   | some (.pv id m off)=>bV σ (some (.pv id m off))
   | some (.fn f fs cs)=>bV σ (some (.fn f fs cs))
   | _=>none
 | .binOp op t x y _=>match ev x,ev y with
   | some a,some b=>bV σ (iP (qG P op t x y a b) λ_=>Py P op t a b)
   | _,_=>none
 | .unOp op _ x=>match ev x with
   | some a=>match uj a with
     | some u=>bV σ ((og P (Op.unary op u)).bind (jK 4))
     | none=>bV σ (Ie op a)
   | none=>none
 | .convert src dst x=>match ev x with
   | some a=>qA (iP (vN P src dst a σ) λ_=>Pz P src dst a σ)
   | none=>none
 | .makeInterface t x=>match ev x,DI P t with
   | some a,some false=>bV σ (some (.dO t a))
   | _,_=>none
 | .makeFunc (.func f) first caps=>match yh ev first.toList,yh ev caps.toList with
    | some fs,some cs=>bV σ (some (.fn f fs cs))
    | _,_=>none
 | .makeMap t r=>match r with
   | none=>some (some (.mp σ.next),σ.new (.map []))
   | some h=>match ev h,P.underlying t with
     | some v,some (.map _ _)=>if mapArg v then some (some (.mp σ.next),σ.new (.map [])) else none
     | _,_=>none
 | .makeSlice t l c=>match ev l,ev c with
   | some l,some c=>qA (iP (LD P t l c σ) λ_=>PO P t l c σ)
   | _,_=>none
 | .slice t x lo hi none=>match ev x,DW ev lo,DW ev hi with
   | some v,some lo,some hi=>iP (bV σ (iP (xU P t σ v lo hi) λ_=>KD P t v lo hi)) λ_=>qA (PU P t σ v lo hi)
   | _,_,_=>none
 | .fieldAddr t x f=>match ev x with
   | some a=>bV σ (iP (Ls P t a f) λ_=>PD P t a f)
   | none=>none
 | .field t x f=>match ev x with
   | some a=>bV σ (Lr P t a f)
   | none=>none
 | .indexAddr t x ix=>match ev x,ev ix with
   | some a,some k=>bV σ (iP (xQ P t a k) λ_=>PI P σ t a k)
   | _,_=>none
 | .index t x ix=>match ev x,ev ix with
   | some a,some k=>bV σ (iP (Aq P t a k) λ_=>PE P t a k)
   | _,_=>none
 | .lookup t m k ok=>match ev m,ev k with
   | some m,some k=>bV σ (iP (LC P t m k ok σ) λ_=>PN P t m k ok σ)
   | _,_=>none
 | .mapUpdate t m k v | .insert t m k v=>match ev m,ev k,ev v with
   | some m,some k,some v=>Ec (iP (EX P t m k v σ) λ_=>PS P t m k v σ)
   | _,_,_=>none
 | .range t x=>match P.underlying t,ev x with
   | some .string,some (.s s)=>some (some (.p σ.next 0),σ.new (.iter s 0))
   | some (.map _ _),some .nY=>some (some (.p σ.next 0),σ.new (.iterM none))
   | some (.map _ _),some (.mp id)=>match σ.get id with
     | some (.map _)=>some (some (.p σ.next 0),σ.new (.iterM (some id)))
     | _=>none
   | _,_=>none
 | .next it true=>match ev it with
   | some a=>qA (LH a σ)
   | none=>none
 | .next it false=>match ev it with
   | some (.p id 0)=>match σ.get id with
     | some (.iterM none)=>some (some (.cO [.b false]),σ)
     | some (.iterM (some m))=>match σ.get m with
       | some (.map [])=>some (some (.cO [.b false]),σ)
       | _=>none
     | _=>none
   | _=>none
 | .typeAssert x _ t ok=>match ev x with
   | some a=>bV σ (LP P a t ok)
   | none=>none
 | .extract x k=>match ev x with
   | some (.cO l)=>bV σ l[k]?
   | _=>none
 | .call c=>match yh ev c.args.toList with
   | some args=>
     match c.callee with
     | .builtin b=>bif V3 b args then iP (Ej P b c.argTypes args σ) λ_=>Cm P b c.argTypes args σ else iP (Cm P b c.argTypes args σ) λ_=>Ej P b c.argTypes args σ
     | .value f=>match ev f with
       | some (.fn f fi caps)=>qA (call f (fi++args++caps) σ)
       | _=>none
     | .invoke r name=>match (ev r).bind (LG P name σ) with
       | some (f,x)=>qA (call f (x::args) σ)
       | none=>none
   | none=>none
 | _=>none
def RJ (op:BinOp) (k:IntKind) (a b:Int):Option AV:=
 match op with
 | .add=>some (.i k (k.wrap (a+b)))
 | .sub=>some (.i k (k.wrap (a - b)))
 | .mul=>some (.i k (k.wrap (a * b)))
 | .eql=>some (.b (a==b))
 | .neq=>some (.b (a != b))
 | .lss=>some (.b (decide (a < b)))
 | .leq=>some (.b (decide (a<=b)))
 | .gtr=>some (.b (decide (a > b)))
 | .geq=>some (.b (decide (a>=b)))
 | _=>none
def RQ (op:BinOp) (a b:List UInt8):Option AV:=
 match op with
 | .add=>if a.length+b.length<=9223372036854775807 then some (.s (a++b)) else none
 | .eql=>some (.b (a==b))
 | .neq=>some (.b (!(a==b)))
 | .lss=>some (.b (Op.bytesLess a b))
 | .leq=>some (.b (Op.bytesLess a b || a==b))
 | .gtr=>some (.b (!(Op.bytesLess a b || a==b)))
 | .geq=>some (.b (!(Op.bytesLess a b)))
 | _=>none
def RI (P:Program) (op:BinOp) (t:TypeId) (x y:Operand) (a b:AV):Option AV:=
 match a with
 | .i k m=>match b with
   | .i k' n=>if k=k' then match RJ op k m n with
      | some r=>some r
      | none=>qG P op t x y a b
     else qG P op t x y a b
   | _=>qG P op t x y a b
 | .s u=>match b with
   | .s v=>match RQ op u v with
     | some r=>some r
     | none=>qG P op t x y a b
   | _=>qG P op t x y a b
 | _=>qG P op t x y a b
theorem toList_mk (l:List UInt8):(⟨⟨l⟩⟩:ByteArray).toList=l:=by rw [ByteArray.toList_eq]
theorem afs {P:Program} {op:BinOp} {t:TypeId} {x y:Operand} {k:IntKind} {m n:Int} {r:AV} (h:RJ op k m n=some r):qG P op t x y (.i k m) (.i k n)=some r:=by
 have key:∀v:Value,(do eqGuard op t x y (.int k m) (.int k n);binOp op t (.int k m) (.int k n):Sem Value)=.pure v->jK 4 v=some r->qG P op t x y (.i k m) (.i k n)=some r:=by
  intro v hv hr;have:qG P op t x y (.i k m) (.i k n)=(og P (do eqGuard op t x y (.int k m) (.int k n);binOp op t (.int k m) (.int k n):Sem Value)).bind (jK 4):=by
   cases op<;>rfl
  rw [this,hv];exact hr
 cases op<;>simp only [RJ,reduceCtorEq,aT] at h<;>subst h
 all_goals refine key _ (by simp only [eqGuard,binOp,ne_eq,not_true_eq_false,if_false,Op.intArith,Op.intCmp];rfl) rfl
theorem XQ (a b:List UInt8):((⟨⟨a⟩⟩:ByteArray)++⟨⟨b⟩⟩)=⟨⟨a++b⟩⟩:=by
 apply ByteArray.ext;rw [ByteArray.data_append];simp
theorem afQ {P:Program} {op:BinOp} {t:TypeId} {x y:Operand} {u v:List UInt8} {r:AV} (h:RQ op u v=some r):qG P op t x y (.s u) (.s v)=some r:=by
 have key:∀z:Value,(do eqGuard op t x y (.string ⟨⟨u⟩⟩) (.string ⟨⟨v⟩⟩);binOp op t (.string ⟨⟨u⟩⟩) (.string ⟨⟨v⟩⟩):Sem Value)=.pure z->jK 4 z=some r->qG P op t x y (.s u) (.s v)=some r:=by
  intro z hz hr;have:qG P op t x y (.s u) (.s v)=(og P (do eqGuard op t x y (.string ⟨⟨u⟩⟩) (.string ⟨⟨v⟩⟩);binOp op t (.string ⟨⟨u⟩⟩) (.string ⟨⟨v⟩⟩):Sem Value)).bind (jK 4):=by
   cases op<;>rfl
  rw [this,hz];exact hr
 cases op<;>simp only [RQ,reduceCtorEq,aT] at h
 case add=>
  split at h
  ·next hb=>
   cases h;have:¬ (((⟨⟨u⟩⟩:ByteArray).size+(⟨⟨v⟩⟩:ByteArray).size:Nat):Int) > IntKind.i64.max:=by
    show ¬ ((u.length+v.length:Nat):Int) > 9223372036854775807
    omega
   exact key (.string ⟨⟨u++v⟩⟩) (by simp only [eqGuard,binOp,Op.stringOp,ah this,XQ];rfl) rfl
  ·cases h
 all_goals subst h
 all_goals refine key _ (by simp only [eqGuard,binOp,Op.stringOp,toList_mk];rfl) rfl
theorem afr (P:Program) (op:BinOp) (t:TypeId) (x y:Operand) (a b:AV):RI P op t x y a b=qG P op t x y a b:=by
 unfold RI;split
 ·split
  ·split
   ·next hk=>
    subst hk;split
    ·next r hr=>exact (afs hr).symm
    ·rfl
   ·rfl
  ·rfl
 ·split
  ·split
   ·next r hr=>exact (afQ hr).symm
   ·rfl
  ·rfl
 ·rfl
def ZH (P:Program) (σ:aj) (op:UnOp) (a:AV):Option (Option AV×aj):=
 match op with
 | .not=>match a with
   | .b x=>some (some (.b (!x)),σ)
   | _=>match uj a with
     | some u=>bV σ ((og P (Op.unary op u)).bind (jK 4))
     | none=>bV σ (Ie op a)
 | _=>match uj a with
   | some u=>bV σ ((og P (Op.unary op u)).bind (jK 4))
   | none=>bV σ (Ie op a)
def ZF (_P:Program) (_call:Caller) (ev:Operand->Option AV) (σ:aj) (x:Operand):Option (Option AV×aj):=
 bV σ (ev x)
def aft (_P:Program) (_call:Caller) (ev:Operand->Option AV) (σ:aj) (c:Operand) (a:Operand) (b:Operand):Option (Option AV×aj):=
 match dB (ev c) with
  | some (.b t)=>bV σ (if t then ev a else ev b)
  | _=>none
def afB (P:Program) (_call:Caller) (_ev:Operand->Option AV) (σ:aj) (t:TypeId):Option (Option AV×aj):=
 (wB P t).map λz=>(some (.p σ.next 0),σ.new (.cells z t true false))
def afK (_P:Program) (_call:Caller) (ev:Operand->Option AV) (σ:aj) (t:TypeId) (x:Operand):Option (Option AV×aj):=
 (ev x).map λv=>(some (.p σ.next 0),σ.new (.cells v.cells t true false))
def afL (P:Program) (_call:Caller) (ev:Operand->Option AV) (σ:aj) (t:TypeId) (parts:Array (Nat×Operand)):Option (Option AV×aj):=
 match Ba ev parts.toList with
  | some ps=>bV σ (Lm P t ps)
  | none=>none
def afM (P:Program) (_call:Caller) (ev:Operand->Option AV) (σ:aj) (t:TypeId) (len:Nat) (parts:Array (Nat×Operand)):Option (Option AV×aj):=
     match tu P t,Ba ev parts.toList with
    | some (e,size,_,z),some ps=>
      if len * size > 2 ^ 24 then none else
      match xO (λi=>some (i * size,size)) (if len * size=0 then [] else ig len z) ps with
      | some cs=>some (Ov P σ e size len cs)
      | none=>none
    | _,_=>none
def afN (P:Program) (_call:Caller) (ev:Operand->Option AV) (σ:aj) (t:TypeId) (a:Operand):Option (Option AV×aj):=
 match ev a with
  | some a=>bV σ (iP (sU P t σ a) λ_=>PK P t σ a)
  | none=>none
def afO (P:Program) (_call:Caller) (ev:Operand->Option AV) (σ:aj) (t:TypeId) (a:Operand) (x:Operand):Option (Option AV×aj):=
 match ev a,ev x with
  | some a,some v=>Ec (iP (Ar P t σ a v) λ_=>PV P t σ a v)
  | _,_=>none
def Ns (_P:Program) (_call:Caller) (ev:Operand->Option AV) (σ:aj) (x:Operand):Option (Option AV×aj):=
 match ev x with
  | some (.p id off)=>bV σ (some (.p id off))
  | some (.rp a off)=>bV σ (some (.rp a off))
  | some (.rx m off)=>bV σ (some (.rx m off))
  | some (.pv id m off)=>bV σ (some (.pv id m off))
  | some (.fn f fs cs)=>bV σ (some (.fn f fs cs))
  | _=>none
def RP (P:Program) (_call:Caller) (ev:Operand->Option AV) (σ:aj) (op:BinOp) (t:TypeId) (x:Operand) (y:Operand):Option (Option AV×aj):=
 match ev x,ev y with
  | some a,some b=>bV σ (iP (RI P op t x y a b) λ_=>Py P op t a b)
  | _,_=>none
def RN (P:Program) (_call:Caller) (ev:Operand->Option AV) (σ:aj) (op:UnOp) (x:Operand):Option (Option AV×aj):=
 match ev x with
  | some a=>ZH P σ op a
  | none=>none
def afu (P:Program) (_call:Caller) (ev:Operand->Option AV) (σ:aj) (src:TypeId) (dst:TypeId) (x:Operand):Option (Option AV×aj):=
 match ev x with
  | some a=>qA (iP (vN P src dst a σ) λ_=>Pz P src dst a σ)
  | none=>none
def afv (P:Program) (_call:Caller) (ev:Operand->Option AV) (σ:aj) (t:TypeId) (x:Operand):Option (Option AV×aj):=
 match ev x,DI P t with
  | some a,some false=>bV σ (some (.dO t a))
  | _,_=>none
def afw (_P:Program) (_call:Caller) (ev:Operand->Option AV) (σ:aj) (f:FuncId) (first:Array Operand) (caps:Array Operand):Option (Option AV×aj):=
 match yh ev first.toList,yh ev caps.toList with
  | some fs,some cs=>bV σ (some (.fn f fs cs))
  | _,_=>none
def ZG (P:Program) (_call:Caller) (ev:Operand->Option AV) (σ:aj) (t:TypeId) (r:Option Operand):Option (Option AV×aj):=
 match r with
  | none=>some (some (.mp σ.next),σ.new (.map []))
  | some h=>match ev h,P.underlying t with
    | some v,some (.map _ _)=>if mapArg v then some (some (.mp σ.next),σ.new (.map [])) else none
    | _,_=>none
def afx (P:Program) (_call:Caller) (ev:Operand->Option AV) (σ:aj) (t:TypeId) (l:Operand) (c:Operand):Option (Option AV×aj):=
 match ev l,ev c with
  | some l,some c=>qA (iP (LD P t l c σ) λ_=>PO P t l c σ)
  | _,_=>none
def afy (P:Program) (_call:Caller) (ev:Operand->Option AV) (σ:aj) (t:TypeId) (x:Operand) (lo:Option Operand) (hi:Option Operand):Option (Option AV×aj):=
 match ev x,DW ev lo,DW ev hi with
  | some v,some lo,some hi=>iP (bV σ (iP (xU P t σ v lo hi) λ_=>KD P t v lo hi)) λ_=>qA (PU P t σ v lo hi)
  | _,_,_=>none
def Nq (P:Program) (_call:Caller) (ev:Operand->Option AV) (σ:aj) (t:TypeId) (x:Operand) (f:Nat):Option (Option AV×aj):=
 match ev x with
  | some a=>bV σ (iP (Ls P t a f) λ_=>PD P t a f)
  | none=>none
def afz (P:Program) (_call:Caller) (ev:Operand->Option AV) (σ:aj) (t:TypeId) (x:Operand) (f:Nat):Option (Option AV×aj):=
 match ev x with
  | some a=>bV σ (Lr P t a f)
  | none=>none
def afA (P:Program) (_call:Caller) (ev:Operand->Option AV) (σ:aj) (t:TypeId) (x:Operand) (ix:Operand):Option (Option AV×aj):=
 match ev x,ev ix with
  | some a,some k=>bV σ (iP (xQ P t a k) λ_=>PI P σ t a k)
  | _,_=>none
def afC (P:Program) (_call:Caller) (ev:Operand->Option AV) (σ:aj) (t:TypeId) (x:Operand) (ix:Operand):Option (Option AV×aj):=
 match ev x,ev ix with
  | some a,some k=>bV σ (iP (Aq P t a k) λ_=>PE P t a k)
  | _,_=>none
def afD (P:Program) (_call:Caller) (ev:Operand->Option AV) (σ:aj) (t:TypeId) (m:Operand) (k:Operand) (ok:Bool):Option (Option AV×aj):=
 match ev m,ev k with
  | some m,some k=>bV σ (iP (LC P t m k ok σ) λ_=>PN P t m k ok σ)
  | _,_=>none
def Nr (P:Program) (_call:Caller) (ev:Operand->Option AV) (σ:aj) (t:TypeId) (m:Operand) (k:Operand) (v:Operand):Option (Option AV×aj):=
 match ev m,ev k,ev v with
  | some m,some k,some v=>Ec (iP (EX P t m k v σ) λ_=>PS P t m k v σ)
  | _,_,_=>none
def afE (P:Program) (_call:Caller) (ev:Operand->Option AV) (σ:aj) (t:TypeId) (x:Operand):Option (Option AV×aj):=
 match P.underlying t,ev x with
  | some .string,some (.s s)=>some (some (.p σ.next 0),σ.new (.iter s 0))
  | some (.map _ _),some .nY=>some (some (.p σ.next 0),σ.new (.iterM none))
  | some (.map _ _),some (.mp id)=>match σ.get id with
    | some (.map _)=>some (some (.p σ.next 0),σ.new (.iterM (some id)))
    | _=>none
  | _,_=>none
def afF (_P:Program) (_call:Caller) (ev:Operand->Option AV) (σ:aj) (it:Operand):Option (Option AV×aj):=
 match ev it with
  | some a=>qA (LH a σ)
  | none=>none
def afG (_P:Program) (_call:Caller) (ev:Operand->Option AV) (σ:aj) (it:Operand):Option (Option AV×aj):=
 match ev it with
  | some (.p id 0)=>match σ.get id with
    | some (.iterM none)=>some (some (.cO [.b false]),σ)
    | some (.iterM (some m))=>match σ.get m with
      | some (.map [])=>some (some (.cO [.b false]),σ)
      | _=>none
    | _=>none
  | _=>none
def afH (P:Program) (_call:Caller) (ev:Operand->Option AV) (σ:aj) (x:Operand) (t:TypeId) (ok:Bool):Option (Option AV×aj):=
 match ev x with
  | some a=>bV σ (LP P a t ok)
  | none=>none
def afI (_P:Program) (_call:Caller) (ev:Operand->Option AV) (σ:aj) (x:Operand) (k:Nat):Option (Option AV×aj):=
 match ev x with
  | some (.cO l)=>bV σ l[k]?
  | _=>none
def afJ (P:Program) (call:Caller) (ev:Operand->Option AV) (σ:aj) (c:Call):Option (Option AV×aj):=
 match yh ev c.args.toList with
  | some args=>
    match c.callee with
    | .builtin b=>bif V3 b args then iP (Ej P b c.argTypes args σ) λ_=>Cm P b c.argTypes args σ else iP (Cm P b c.argTypes args σ) λ_=>Ej P b c.argTypes args σ
    | .value f=>match ev f with
      | some (.fn f fi caps)=>qA (call f (fi++args++caps) σ)
      | _=>none
    | .invoke r name=>match (ev r).bind (LG P name σ) with
      | some (f,x)=>qA (call f (x::args) σ)
      | none=>none
  | none=>none
structure Xw where
 f:Program->Caller->(Operand->Option AV)->aj->Option (Option AV×aj)
def opF (o:Op):Xw:=
 Op.casesOn (motive:=λ_=>Xw) o
  (λx=>⟨λP call ev σ=>ZF P call ev σ x⟩)
  (λx=>⟨λP call ev σ=>ZF P call ev σ x⟩)
  (λc a b=>⟨λP call ev σ=>aft P call ev σ c a b⟩)
  (λt=>⟨λP call ev σ=>afB P call ev σ t⟩)
  (λt x=>⟨λP call ev σ=>afK P call ev σ t x⟩)
  (λt parts=>⟨λP call ev σ=>afL P call ev σ t parts⟩)
  (λt len parts=>⟨λP call ev σ=>afM P call ev σ t len parts⟩)
  (λt m k v=>⟨λP call ev σ=>Nr P call ev σ t m k v⟩)
  (λt a=>⟨λP call ev σ=>afN P call ev σ t a⟩)
  (λt a x=>⟨λP call ev σ=>afO P call ev σ t a x⟩)
  (λ_=>⟨λ_P _call _ev _σ=>none⟩)
  (λ_=>⟨λ_P _call _ev _σ=>none⟩)
  (λx=>⟨λP call ev σ=>Ns P call ev σ x⟩)
  (λop t x y _=>⟨λP call ev σ=>RP P call ev σ op t x y⟩)
  (λop _ x=>⟨λP call ev σ=>RN P call ev σ op x⟩)
  (λsrc dst x=>⟨λP call ev σ=>afu P call ev σ src dst x⟩)
  (λ_ _=>⟨λ_P _call _ev _σ=>none⟩)
  (λt x=>⟨λP call ev σ=>afv P call ev σ t x⟩)
  (λfn first caps=>⟨λP call ev σ=>match fn with | .func f=>afw P call ev σ f first caps | _=>none⟩)
  (λt r=>⟨λP call ev σ=>ZG P call ev σ t r⟩)
  (λ_ _=>⟨λ_P _call _ev _σ=>none⟩)
  (λt l c=>⟨λP call ev σ=>afx P call ev σ t l c⟩)
  (λt x lo hi mx=>⟨λP call ev σ=>match mx with | none=>afy P call ev σ t x lo hi | some _=>none⟩)
  (λt x f=>⟨λP call ev σ=>Nq P call ev σ t x f⟩)
  (λt x f=>⟨λP call ev σ=>afz P call ev σ t x f⟩)
  (λt x ix=>⟨λP call ev σ=>afA P call ev σ t x ix⟩)
  (λt x ix=>⟨λP call ev σ=>afC P call ev σ t x ix⟩)
  (λt m k ok=>⟨λP call ev σ=>afD P call ev σ t m k ok⟩)
  (λt m k v=>⟨λP call ev σ=>Nr P call ev σ t m k v⟩)
  (λ_ _ _=>⟨λ_P _call _ev _σ=>none⟩)
  (λ_ _ _ _=>⟨λ_P _call _ev _σ=>none⟩)
  (λt x=>⟨λP call ev σ=>afE P call ev σ t x⟩)
  (λit b=>⟨λP call ev σ=>bif b then afF P call ev σ it else afG P call ev σ it⟩)
  (λ_=>⟨λ_P _call _ev _σ=>none⟩)
  (λx _ t ok=>⟨λP call ev σ=>afH P call ev σ x t ok⟩)
  (λx k=>⟨λP call ev σ=>afI P call ev σ x k⟩)
  (λc=>⟨λP call ev σ=>afJ P call ev σ c⟩)
  (λ_=>⟨λ_P _call _ev _σ=>none⟩)
  (λ_=>⟨λ_P _call _ev _σ=>none⟩)
  (λ_=>⟨λ_P _call _ev _σ=>none⟩)
  (λ_ _=>⟨λ_P _call _ev _σ=>none⟩)
  (λ_ _ _=>⟨λ_P _call _ev _σ=>none⟩)
  (λ_ _=>⟨λ_P _call _ev _σ=>none⟩)
def kG (P:Program) (call:Caller) (o:Oper) (ev:Operand->Option AV) (σ:aj):Option (Option AV×aj):=(opF o.op).f P call ev σ
theorem afR (P:Program) (σ:aj) (op:UnOp) (a:AV):ZH P σ op a=match uj a with
 | some u=>bV σ ((og P (Op.unary op u)).bind (jK 4))
 | none=>bV σ (Ie op a):=by
 cases op<;>first | rfl | skip
 cases a<;>rfl
theorem rH (P:Program) (call:Caller) (o:Oper) (ev:Operand->Option AV) (σ:aj):kG P call o ev σ=oV P call o ev σ:=by
 obtain ⟨dst,op,type,pos,after,guard⟩:=o;cases op with
 | binOp op t x y _=>
   show RP P call ev σ op t x y=_
   simp only [RP,afr,oV]
 | unOp op _ x=>
   show RN P call ev σ op x=_
   simp only [RN,afR,oV]
 | slice t x lo hi mx=>cases mx<;>rfl
 | makeFunc fn _ _=>cases fn<;>rfl
 | next it b=>cases b<;>rfl
 | _=>rfl
def Ac (o:Oper) (ops:Array Oper) (a:aW):Option Bool:=
 match o.guard with
 | none=>some true
 | some (j,want)=>
   match ops[j]? with
   | some q=>match q.dst with
     | some d=>match dB (a.t.get d) with
       | some (.b x)=>some (x==want)
       | some (.cO _)=>some false
       | _=>none
     | none=>none
   | none=>none
def QL (P:Program) (call:Caller) (ops:Array Oper) (i:Nat) (a:aW) (σ:aj):Option (aW×aj):=
 match ops[i]? with
 | none=>none
 | some o=>
   match Ac o ops a with
   | none=>none
   | some false=>(a.put o.dst (some (.cO []))).map (·,σ)
   | some true=>
     match kG P call o a.eval σ with
     | none=>none
     | some (v,σ')=>(a.put o.dst v).map (·,σ')
def EY (P:Program) (call:Caller) (ops:Array Oper):List Nat->aW->aj->Option (aW×aj)
 | [],a,σ=>some (a,σ)
 | i::rest,a,σ=>
   match QL P call ops i a σ with
   | some (a',σ')=>EY P call ops rest a' σ'
   | none=>none
inductive dK where
 | normal
 | exit (id:Nat)
 | ret
def xR (P:Program) (σ:aj) (a:aW):List ResultVar->Option (List AV)
 | []=>some []
 | .tmp t::rs=>match a.t.get t,xR P σ a rs with
   | some v,some r=>some (v::r)
   | _,_=>none
 | .cell t ty::rs=>match (a.t.get t).bind (sU P ty σ),xR P σ a rs with
   | some v,some r=>some (v::r)
   | _,_=>none
def BN:List AV->AV
 | [v]=>v
 | l=>.cO l
def wM:List AV->Nat->Tr AV->Tr AV
 | [],_,t=>t
 | v::vs,k,t=>wM vs (k+1) (t.set k (some v))
abbrev xC:=Array Oper->aW->aj->Option (aW×aj)
abbrev uH:=FuncId->Option (List AV->aj->Option (AV×aj))
def CZ (P:Program) (pr:uH) (run:Code->aW->aj->Option (dK×aW×aj)):Caller:=λf args σ=>
 match pr f with
 | some g=>g args σ
 | none=>
   match P.funcs[f]? with
   | none=>none
   | some fn=>match fn.body with
     | none=>none
     | some c=>
       match run c { t:=wM args 0 .nil,n:=max args.length fn.ntmps,gn:=P.globals.size } σ with
       | some (.normal,a',σ') | some (.ret,a',σ')=>(xR P σ' a' fn.results.toList).map λl=>(BN l,σ')
       | _=>none
def qK (P:Program) (dr:Caller->xC) (pr:uH) (run:Code->aW->aj->Option (dK×aW×aj)) (c:Code) (a:aW) (σ:aj):Option (dK×aW×aj):=
 match c with
 | .skip=>some (.normal,a,σ)
 | .region _ ops false=>(EY P (CZ P pr run) ops (List.range ops.size) a σ).map λ(a,σ)=>(.normal,a,σ)
 | .region _ ops true=>(dr (CZ P pr run) ops a σ).map λ(a,σ)=>(.normal,a,σ)
 | .seq x y=>
   match run x a σ with
   | some (.normal,a',σ')=>run y a' σ'
   | r=>r
 | .cond x y z=>
   match dB (a.eval x) with
   | some (.b t)=>run (if t then y else z) a σ
   | _=>none
 | .block id b=>
   match run b a σ with
   | some (.exit id',a',σ')=>if id'=id then some (.normal,a',σ') else some (.exit id',a',σ')
   | r=>r
 | .loop b=>
   match run b a σ with
   | some (.normal,a',σ')=>run (.loop b) a' σ'
   | r=>r
 | .exit id=>some (.exit id,a,σ)
 | .ret=>some (.ret,a,σ)
 | _=>none
structure wG where
 f:Program->(Caller->xC)->uH->(Code->aW->aj->Option (dK×aW×aj))->aW->aj->Option (dK×aW×aj)
def aeg:wG:=⟨λ_ _ _ _ a σ=>some (.normal,a,σ)⟩
def aed (ops:Array Oper) (d:Bool):wG:=bif d then ⟨λP dr pr run a σ=>(dr (CZ P pr run) ops a σ).map λ(a,σ)=>(.normal,a,σ)⟩
 else ⟨λP _ pr run a σ=>(EY P (CZ P pr run) ops (List.range ops.size) a σ).map λ(a,σ)=>(.normal,a,σ)⟩
def aef (x y:Code):wG:=⟨λ_ _ _ run a σ=>match run x a σ with
    | some (.normal,a',σ')=>run y a' σ'
    | r=>r⟩
def aea (x:Operand) (y z:Code):wG:=⟨λ_ _ _ run a σ=>match dB (a.eval x) with
    | some (.b t)=>run (if t then y else z) a σ
    | _=>none⟩
def ad9 (id:Nat) (b:Code):wG:=⟨λ_ _ _ run a σ=>match run b a σ with
    | some (.exit id',a',σ')=>if id'=id then some (.normal,a',σ') else some (.exit id',a',σ')
    | r=>r⟩
def aec (b:Code):wG:=⟨λ_ _ _ run a σ=>match run b a σ with
    | some (.normal,a',σ')=>run (.loop b) a' σ'
    | r=>r⟩
def aeb (id:Nat):wG:=⟨λ_ _ _ _ a σ=>some (.exit id,a,σ)⟩
def aee:wG:=⟨λ_ _ _ _ a σ=>some (.ret,a,σ)⟩
def Jd:wG:=⟨λ_ _ _ _ _ _=>none⟩
def codeF (c:Code):wG:=
 Code.casesOn (motive:=λ_=>wG) c
  aeg
  (λ_ ops d=>aed ops d)
  (λx y=>aef x y)
  (λx y z=>aea x y z)
  (λid b=>ad9 id b)
  (λb=>aec b)
  (λ_ _ _ _=>Jd)
  (λid=>aeb id)
  (λ_=>Jd)
  (λ_=>Jd)
  (λ_=>Jd)
  aee
  (λ_=>Jd)
theorem codeF_eq (P:Program) (dr:Caller->xC) (pr:uH) (run:Code->aW->aj->Option (dK×aW×aj)) (c:Code) (a:aW) (σ:aj):(codeF c).f P dr pr run a σ=qK P dr pr run c a σ:=by
 cases c with
 | region id ops d=>cases d<;>rfl
 | _=>rfl
def Ap (P:Program) (dr:Caller->xC) (pr:uH) (n:Nat):Code->aW->aj->Option (dK×aW×aj):=
 Nat.rec (motive:=λ_=>Code->aW->aj->Option (dK×aW×aj)) (λ_ _ _=>none) (λ_ run c a σ=>(codeF c).f P dr pr run a σ) n
theorem XG (P:Program) (dr:Caller->xC) (pr:uH) (c:Code) (a:aW) (σ:aj):Ap P dr pr 0 c a σ=none:=rfl
theorem sO (P:Program) (dr:Caller->xC) (pr:uH) (n:Nat) (c:Code) (a:aW) (σ:aj):Ap P dr pr (n+1) c a σ=qK P dr pr (Ap P dr pr n) c a σ:=codeF_eq P dr pr _ c a σ
def XF (P:Program) (dr:Caller->xC) (pr:uH) (n:Nat):Caller:=CZ P pr (Ap P dr pr n)
end
end Go.aJ
namespace Go.aJ
set_option linter.unusedSimpArgs false
noncomputable section
variable [aC]
set_option linter.unusedSectionVars false
set_option linter.unusedVariables false
theorem ET {η:Env}:∀ {l:List AV} {vs:List Value},ay η l vs↔l.length=vs.length/\∀ (k:Nat) a x,l[k]? = some a->vs[k]? = some x->VR η a x
 | [],vs=>by
   simp only [ay];constructor
   ·rintro rfl;simp
   ·rintro ⟨h,_⟩;cases vs with
    | nil=>rfl
    | cons _ _=>simp at h
 | a::l,vs=>by
   simp only [ay];constructor
   ·rintro ⟨x,xs,rfl,h1,h2⟩
    have ih:=(ET (l:=l) (vs:=xs)).1 h2;refine ⟨by simp [ih.1], ?_⟩;intro k b y hk hy;cases k with
    | zero=>simp at hk hy;subst hk;subst hy;exact h1
    | succ k=>simp at hk hy;exact ih.2 k b y hk hy
   ·rintro ⟨hl,h⟩
    cases vs with
    | nil=>simp at hl
    | cons x xs=>
      refine ⟨x,xs,rfl,h 0 a x (by simp) (by simp),(ET (l:=l) (vs:=xs)).2 ⟨by simpa using hl, ?_⟩⟩;intro k b y hk hy;exact h (k+1) b y (by simpa using hk) (by simpa using hy)
theorem ay.length {η:Env} {l:List AV} {vs:List Value} (h:ay η l vs):l.length=vs.length:=(ET.1 h).1
theorem ay.at {η:Env} {l:List AV} {vs:List Value} (h:ay η l vs) {k:Nat} {a:AV} (hk:l[k]? = some a):∃x,vs[k]? = some x/\VR η a x:=by
 have h':=ET.1 h;obtain ⟨hlt,rfl⟩:=dL.1 hk;have:k < vs.length:=by omega
 exact ⟨vs[k],bK this,h'.2 k _ _ hk (bK this)⟩
theorem ay.of {η:Env} {l:List AV} {vs:List Value} (hl:l.length=vs.length) (h:∀ (k:Nat) a,l[k]? = some a->∃x,vs[k]? = some x/\VR η a x):ay η l vs:=
 ET.2 ⟨hl,λk a x hk hx=>by obtain ⟨y,hy,hv⟩:=h k a hk;rw [hx] at hy;cases hy;exact hv⟩
theorem ay.append {η:Env} {l l':List AV} {vs vs':List Value} (h:ay η l vs) (h':ay η l' vs'):ay η (l++l') (vs++vs'):=by
 induction l generalizing vs with
 | nil=>simp only [ay] at h;subst h;simpa using h'
 | cons a l ih=>
   simp only [ay] at h;obtain ⟨x,xs,rfl,h1,h2⟩:=h;exact ⟨x,xs++vs',rfl,h1,ih h2⟩
theorem ay.take {η:Env} {l:List AV} {vs:List Value} (h:ay η l vs) (n:Nat):ay η (l.take n) (vs.take n):=by
 induction n generalizing l vs with
 | zero=>simp [ay]
 | succ n ih=>cases l with
   | nil=>simp only [ay] at h;subst h;simp [ay]
   | cons a l=>
     simp only [ay] at h;obtain ⟨x,xs,rfl,h1,h2⟩:=h;exact ⟨x,xs.take n,by simp,h1,ih h2⟩
theorem ay.drop {η:Env} {l:List AV} {vs:List Value} (h:ay η l vs) (n:Nat):ay η (l.drop n) (vs.drop n):=by
 induction n generalizing l vs with
 | zero=>simpa using h
 | succ n ih=>cases l with
   | nil=>simp only [ay] at h;subst h;simp [ay]
   | cons a l=>
     simp only [ay] at h;obtain ⟨x,xs,rfl,h1,h2⟩:=h;simpa using ih h2
theorem ay.cons {η:Env} {a:AV} {l:List AV} {x:Value} {vs:List Value} (h:VR η a x) (h':ay η l vs):ay η (a::l) (x::vs):=⟨x,vs,rfl,h,h'⟩
structure Env.le (η η':Env):Prop where
 pl:∀id q,η id=some q->η' id=some q
 ro:∀b o,η.ro b=some o->η'.ro b=some o
 gh:∀id,η.gh id=true->η'.gh id=true
theorem Env.le.refl (η:Env):η.le η:=⟨λ_ _ h=>h,λ_ _ h=>h,λ_ h=>h⟩
theorem Env.le.trans {a b c:Env} (h:a.le b) (h':b.le c):a.le c:=⟨λid q hq=>h'.pl id q (h.pl id q hq),λb o ho=>h'.ro b o (h.ro b o ho),λid hq=>h'.gh id (h.gh id hq)⟩
def Env.has (η:Env) (id:Nat):Prop:=(∃q,η id=some q)\/η.gh id=true
theorem Env.has.mono {η η':Env} {id:Nat} (h:η.has id) (hle:η.le η'):η'.has id:=h.elim (λ⟨q,hq⟩=>.inl ⟨q,hle.pl _ _ hq⟩) λhg=>.inr (hle.gh _ hg)
mutual
theorem GR.mono {ro ro':Nat->Option Obj} (h:∀b o,ro b=some o->ro' b=some o):∀ (a:GV) (v:Value),GR ro a v->GR ro' a v
 | .b _,_,hv=>by simpa only [GR] using hv
 | .i _ _,_,hv=>by simpa only [GR] using hv
 | .s _,_,hv=>by simpa only [GR] using hv
 | .g l,_,hv=>by simp only [GR] at hv ⊢;obtain ⟨x,e,h1⟩:=hv;exact ⟨x,e,aK.mono h l x h1⟩
 | .l xs,_,hv=>by
   simp only [GR] at hv ⊢;rcases hv with hv | ⟨bl,off,c,ys,sz,e,hc,h1,h2,h3⟩
   ·exact .inl hv
   exact .inr ⟨bl,off,c,ys,sz,e,hc,aK.mono h xs ys h1,h2,λhn=>by obtain ⟨cs,elem,fr,h4,h5⟩:=h3 hn;exact ⟨cs,elem,fr,h _ _ h4,h5⟩⟩
theorem aK.mono {ro ro':Nat->Option Obj} (h:∀b o,ro b=some o->ro' b=some o):∀ (l:List GV) (vs:List Value),aK ro l vs->aK ro' l vs
 | [],_,hv=>by simpa only [aK] using hv
 | a::l,_,hv=>by
   simp only [aK] at hv ⊢;obtain ⟨x,xs,e,h1,h2⟩:=hv;exact ⟨x,xs,e,GR.mono h a x h1,aK.mono h l xs h2⟩
end
mutual
theorem VR.mono {η η':Env} (h:η.le η'):∀ (a:AV) (v:Value),VR η a v->VR η' a v
 | .b _,_,hv=>by simpa only [VR] using hv
 | .i _ _,_,hv=>by simpa only [VR] using hv
 | .s _,_,hv=>by simpa only [VR] using hv
 | .iO,_,hv=>by simpa only [VR] using hv
 | .p _ _,_,hv=>by simp only [VR] at hv ⊢;obtain ⟨q,hq,e⟩:=hv;exact ⟨q,h.pl _ _ hq,e⟩
 | .dA,_,hv=>by simpa only [VR] using hv
 | .sl _ _ _ _,_,hv=>by simp only [VR] at hv ⊢;obtain ⟨q,hq,e⟩:=hv;exact ⟨q,h.pl _ _ hq,e⟩
 | .nY,_,hv=>by simpa only [VR] using hv
 | .mp _,_,hv=>by simp only [VR] at hv ⊢;obtain ⟨q,hq,e⟩:=hv;exact ⟨q,h.pl _ _ hq,e⟩
 | .xu,_,hv=>by simpa only [VR] using hv
 | .fn _ fi cs,_,hv=>by
   simp only [VR] at hv ⊢;obtain ⟨us,vs,e,h1,h2⟩:=hv;exact ⟨us,vs,e,ay.mono h fi us h1,ay.mono h cs vs h2⟩
 | .qy,_,hv=>by simpa only [VR] using hv
 | .dO _ a,_,hv=>by simp only [VR] at hv ⊢;obtain ⟨x,e,h1⟩:=hv;exact ⟨x,e,VR.mono h a x h1⟩
 | .agg l,_,hv=>by simp only [VR] at hv ⊢;obtain ⟨x,e,h1⟩:=hv;exact ⟨x,e,ay.mono h l x h1⟩
 | .cO l,_,hv=>by simp only [VR] at hv ⊢;obtain ⟨x,e,h1⟩:=hv;exact ⟨x,e,ay.mono h l x h1⟩
 | .z _ _ _,_,hv=>by simpa only [VR] using hv
 | .ro l,_,hv=>by
   simp only [VR] at hv ⊢;rcases hv with hv | ⟨bl,off,c,xs,sz,e,hc,h1,h2,h3⟩
   ·exact .inl hv
   refine .inr ?_;exact ⟨bl,off,c,xs,sz,e,hc,ay.mono h l xs h1,h2,λhn=>by obtain ⟨cs,elem,fr,h4,h5⟩:=h3 hn;exact ⟨cs,elem,fr,h.ro _ _ h4,h5⟩⟩
 | .rp a _,_,hv=>by
   simp only [VR] at hv ⊢;obtain ⟨bl,base,cs,elem,fr,x,h1,h2,h3⟩:=hv;exact ⟨bl,base,cs,elem,fr,x,h.ro _ _ h1,VR.mono h a x h2,h3⟩
 | .nd _,_,hv=>by simp only [VR] at hv ⊢;obtain ⟨g,h1,h2,h3⟩:=hv;exact ⟨g,h1,h2,GR.mono h.ro _ _ h3⟩
 | .rx _ _,_,hv=>by simp only [VR] at hv ⊢;obtain ⟨g,bl,base,cs,elem,fr,x,h1,h2,h3,h4⟩:=hv;exact ⟨g,bl,base,cs,elem,fr,x,h1,h.ro _ _ h2,GR.mono h.ro _ _ h3,h4⟩
 | .sv _ _,_,hv=>by
   simp only [VR] at hv ⊢;obtain ⟨xs,h1,⟨q,hq,h2⟩ | ⟨hg,h2⟩⟩:=hv
   ·exact ⟨xs,h1,.inl ⟨q,h.pl _ _ hq,h2⟩⟩
   ·exact ⟨xs,h1,.inr ⟨h.gh _ hg,h2⟩⟩
 | .pv _ _ _,_,hv=>by simp only [VR] at hv ⊢;obtain ⟨q,k,i,hq,h2⟩:=hv;exact ⟨q,k,i,h.pl _ _ hq,h2⟩
 | .pd _ _,_,hv=>by
   simp only [VR] at hv ⊢;obtain ⟨xs,p,h1,h2,h3⟩:=hv;exact ⟨xs,p,h1,h2,λhn=>by obtain ⟨q,hq,h4⟩:=h3 hn;exact ⟨q,h.pl _ _ hq,h4⟩⟩
theorem ay.mono {η η':Env} (h:η.le η'):∀ (l:List AV) (vs:List Value),ay η l vs->ay η' l vs
 | [],_,hv=>by simpa only [ay] using hv
 | a::l,_,hv=>by
   simp only [ay] at hv ⊢;obtain ⟨x,xs,e,h1,h2⟩:=hv;exact ⟨x,xs,e,VR.mono h a x h1,ay.mono h l xs h2⟩
end
theorem Gw {α β:Type} {f:α->Option β}:∀ {l:List α} {r:List β},qR f l=some r->l.length=r.length/\∀ (k:Nat) x,l[k]? = some x->∃y,r[k]? = some y/\f x=some y
 | [],r,h=>by simp [qR] at h;subst h;simp
 | x::xs,r,h=>by
   simp only [qR] at h;split at h
   ·cases h
   ·rename_i y hy
    split at h
    ·cases h
    ·rename_i ys hys
     cases h;have ih:=Gw hys;refine ⟨by simp [ih.1],λk z hz=>?_⟩;cases k with
     | zero=>simp at hz;subst hz;exact ⟨y,by simp,hy⟩
     | succ k=>simp at hz;obtain ⟨u,hu,hf⟩:=ih.2 k z hz;exact ⟨u,by simpa using hu,hf⟩
theorem acY {η:Env}:∀ (n:Nat) (a:AV) (v:Value),a.toVal n=some v->VR η a v:=by
 intro n;induction n with
 | zero=>intro a v h;simp [AV.toVal] at h
 | succ n ih=>
   intro a v h;have lst:∀ (l:List AV) (vs:List Value),qR (AV.toVal n) l=some vs->ay η l vs:=λl vs hl=>by
    have:=Gw hl;exact ay.of this.1 λk a hk=>by obtain ⟨y,hy,hf⟩:=this.2 k a hk;exact ⟨y,hy,ih _ _ hf⟩
   cases a<;>simp only [AV.toVal,aX,aT] at h<;>simp only [VR]<;>first | exact h.symm | (cases h;done) | skip
   case dO t a=>obtain ⟨y,h1,h2⟩:=h;exact ⟨_,h2.symm,ih _ _ h1⟩
   case agg l=>obtain ⟨y,h1,h2⟩:=h;exact ⟨_,h2.symm,lst _ _ h1⟩
   case cO l=>obtain ⟨y,h1,h2⟩:=h;exact ⟨_,h2.symm,lst _ _ h1⟩
theorem ac0 {η:Env}:∀ (n:Nat) (a:AV) (v x:Value),a.toVal n=some v->VR η a x->x=v:=by
 intro n;induction n with
 | zero=>intro a v x h;simp [AV.toVal] at h
 | succ n ih=>
   intro a v x h hx;have lst:∀ (l:List AV) (vs us:List Value),qR (AV.toVal n) l=some vs->ay η l us->us=vs:=λl vs us hl hu=>by
    have h1:=Gw hl;have h2:=ET.1 hu;apply EK;intro k;by_cases hk:k < l.length
    ·obtain ⟨y,hy,hf⟩:=h1.2 k _ (bK hk)
     obtain ⟨z,hz,hv⟩:=hu.at (bK hk);rw [hy,hz,ih _ _ _ hf hv]
    ·rw [vF (by omega),vF (by omega)]
   cases a<;>simp only [AV.toVal,aX,aT] at h<;>simp only [VR] at hx<;>first | exact hx.trans h | (cases h;done) | skip
   case dO t a=>obtain ⟨y,h1,h2⟩:=h;obtain ⟨z,rfl,hz⟩:=hx;rw [<- h2,ih _ _ _ h1 hz]
   case agg l=>obtain ⟨y,h1,h2⟩:=h;obtain ⟨z,rfl,hz⟩:=hx;rw [<- h2,lst _ _ _ h1 hz]
   case cO l=>obtain ⟨y,h1,h2⟩:=h;obtain ⟨z,rfl,hz⟩:=hx;rw [<- h2,lst _ _ _ h1 hz]
theorem zH {η:Env}:∀ (n:Nat) (v:Value) (a:AV),jK n v=some a->VR η a v:=by
 intro n;induction n with
 | zero=>intro v a h;simp [jK] at h
 | succ n ih=>
   intro v a h;have lst:∀ (vs:List Value) (l:List AV),qR (jK n) vs=some l->ay η l vs:=λvs l hl=>by
    have h1:=Gw hl;refine ay.of h1.1.symm λk a hk=>?_;have hlt:k < vs.length:=by have:=(dL.1 hk).1;omega
    obtain ⟨y,hy,hf⟩:=h1.2 k _ (bK hlt);rw [hk] at hy;cases hy;exact ⟨_,bK hlt,ih _ _ hf⟩
   unfold jK at h;split at h;all_goals try (cases h;done)
   all_goals try (cases h;simp only [VR];done)
   ·simp only [aX] at h;obtain ⟨y,h1,rfl⟩:=h;simp only [VR];exact ⟨_,rfl,ih _ _ h1⟩
   ·simp only [aX] at h;obtain ⟨y,h1,rfl⟩:=h;simp only [VR];exact ⟨_,rfl,lst _ _ h1⟩
   ·simp only [aX] at h;obtain ⟨y,h1,rfl⟩:=h;simp only [VR];exact ⟨_,rfl,lst _ _ h1⟩
theorem yD {α:Type} {P:Program} {s:Sem α} {a:α} (h:og P s=some a) (w:World):s.run P w=.ok a w:=by
 induction s with
 | pure x=>simp [og] at h;subst h;rfl
 | program k ih=>exact ih P h
 | mark m k ih=>exact ih h
 | _=>simp [og] at h
omit [aC] in
theorem Tr.Z5 {α:Type}:∀p:List Bool,(Tr.nil:Tr α).tH p=none
 | []=>rfl
 | b::p=>by
   show Tr.tH p (bif b then Tr.nil else Tr.nil)=none
   cases b<;>exact Tr.Z5 p
omit [aC] in
@[simp] theorem Tr.get_nil {α:Type} (m:Nat):(Tr.nil:Tr α).get m=none:=Tr.Z5 _
omit [aC] in
theorem Tr.RY {α:Type} (x:Option α):∀ (p q:List Bool) (t:Tr α),(t.Ei x p).tH q=if q=p then x else t.tH q
 | [],[],t=>rfl
 | [],c::q,t=>by
   rw [ah (by simp)];rfl
 | b::p,[],t=>by
   rw [ah (by simp)];cases b<;>rfl
 | b::p,c::q,t=>by
   have h1:(t.Ei x (b::p))=bif b then .nd t.val (t.zD.Ei x p) t.zO else .nd t.val t.zD (t.zO.Ei x p):=rfl
   have h2:∀u:Tr α,u.tH (c::q)=(bif c then u.zD else u.zO).tH q:=λ_=>rfl;rw [h1,h2,h2];cases b<;>cases c
   ·show (t.zO.Ei x p).tH q=_
    rw [Tr.RY x p q];simp
   ·show t.zD.tH q=_
    simp
   ·show t.zO.tH q=_
    simp
   ·show (t.zD.Ei x p).tH q=_
    rw [Tr.RY x p q];simp
def P9:List Bool->Nat
 | []=>0
 | b::p=>2 * P9 p+(if b then 1 else 2)
omit [aC] in
theorem ac9:∀ (f n:Nat),n < 2 ^ f->P9 (J5 f n)=n
 | 0,n,h=>by
   have:n=0:=by simpa using h
   subst this;rfl
 | f+1,n,h=>by
   have h1:J5 (f+1) n=bif Nat.beq n 0 then [] else Nat.beq ((n - 1) % 2) 0::J5 f ((n - 1) / 2):=rfl
   rw [h1];by_cases h0:n=0
   ·subst h0;rfl
   ·have hb:Nat.beq n 0=false:=by cases n with | zero=>exact absurd rfl h0 | succ n=>rfl
    rw [hb];show 2 * P9 (J5 f ((n - 1) / 2))+_=n
    have hp:2 ^ (f+1)=2 * 2 ^ f:=by rw [EP,Cb]
    rw [ac9 f _ (by omega)];rcases Nat.mod_two_eq_zero_or_one (n - 1) with h2 | h2
    ·rw [h2];show 2 * ((n - 1) / 2)+1=n;omega
    ·rw [h2];show 2 * ((n - 1) / 2)+2=n;omega
omit [aC] in
theorem ac8 (n:Nat):P9 (path n)=n:=ac9 _ _ Nat.lt_log2_self
omit [aC] in
theorem ajA {n m:Nat}:path n=path m↔n=m:=⟨λh=>by rw [<- ac8 n,h,ac8],λh=>by rw [h]⟩
omit [aC] in
theorem Tr.tJ {α:Type} (t:Tr α) (n m:Nat) (x:Option α):(t.set n x).get m=if m=n then x else t.get m:=by
 unfold Tr.get Tr.set;rw [Tr.RY];by_cases h:m=n
 ·subst h;simp
 ·rw [ah h,ah (λe=>h (ajA.1 e))]
omit [aC] in
theorem aj.get_put (σ:aj) (id id':Nat) (o:aZ):(σ.put id o).get id'=if id'=id then some o else σ.get id':=Tr.tJ _ _ _ _
omit [aC] in
theorem aj.vT (σ:aj) (id id':Nat):(σ.kill id).get id'=if id'=id then none else σ.get id':=Tr.tJ _ _ _ _
omit [aC] in
theorem aj.oJ (σ:aj) (id':Nat) (o:aZ):(σ.new o).get id'=if id'=σ.next then some o else σ.get id':=Tr.tJ _ _ _ _
def aZ.own:aZ->Bool
 | .cells _ _ rw _=>rw
 | _=>true
structure pV (P:Program) (η:Env) (q:Place) (c:List AV) (et:TypeId) (rw opn:Bool) (cs:Array Value) (elem:TypeId) (fr:Nat×Nat):Prop where
 fits:q.ba+q.sz<=cs.size
 le:c.length<=q.sz
 shut:opn=false->c.length=q.sz
 cell:∀ (k:Nat) a,c[k]? = some a->∃x,cs[q.ba+k]? = some x/\VR η a x
 free:rw=true->∀k,k < q.sz->¬ (fr.1<=q.ba+k/\q.ba+k < fr.2)
 whole:et≠0->elem=et/\q.ba+q.sz=cs.size/\(opn=false->q.ba=0)
 room:opn=true->et≠0/\0 < q.es/\sizeT P et=some q.es
def xg (kk:Option IntKind) (a:GV):Prop:=match kk with
 | some k=>∃n,a=.i k n
 | none=>∃s,a=.s s
def Ij (sz:Option Nat) (b:GV):Prop:=match sz with
 | none=>b.scalar=true
 | some n=>∃cs,b=.g cs/\cs.length=n/\cs.all GV.scalar=true
def qg (ro:Nat->Option Obj) (kk:Option IntKind) (sz:Option Nat):List GV->List MapEntry->Prop
 | [],ms=>ms=[]
 | x::xs,ms=>∃a b m rest,x=.g [a,b]/\ms=m::rest/\xg kk a/\Ij sz b/\GR ro a m.key/\GR ro b m.val/\qg ro kk sz xs rest
theorem qg.mono {ro ro':Nat->Option Obj} (h:∀b o,ro b=some o->ro' b=some o) {kk:Option IntKind} {sz:Option Nat}:∀ {xs:List GV} {ms:List MapEntry},qg ro kk sz xs ms->qg ro' kk sz xs ms
 | [],ms,r=>r
 | x::xs,ms,r=>by
   obtain ⟨a,b,m,rest,e1,e2,h1,h2,h3,h4,h5⟩:=r;exact ⟨a,b,m,rest,e1,e2,h1,h2,GR.mono h _ _ h3,GR.mono h _ _ h4,qg.mono h h5⟩
def OR (P:Program) (η:Env) (q:Place) (w:World):aZ->Prop
 | .cells c et rw opn=>∃cs elem fr,w.heap[q.bl]? = some (.cells cs elem fr)/\pV P η q c et rw opn cs elem fr
 | .iter s pos=>w.heap[q.bl]? = some (.stringIter ⟨⟨s⟩⟩ pos)/\q.ba=0
 | .map es=>∃ms clock,w.heap[q.bl]? = some (.map ms clock)/\ms.size=es.length/\∀ (k:Nat) e,es[k]? = some e->∃m,ms[k]? = some m/\VR η e.1 m.key/\VR η e.2 m.val
 | .vec n et f=>∃xs cs elem fr ys,aC.val n=some (.l xs)/\w.heap[q.bl]? = some (.cells cs elem fr)/\aK η.ro xs ys/\(∀y∈ys,y.cells.size=q.es)/\AL cs q.ba (bU ys)/\xs.length * q.es<=q.sz/\pV P η q [] et true true cs elem fr/\(∀x∈xs,x.cells.all GV.scalar=true)/\(f=true->q.es<=q.sz)
 | .smap n kk sz=>∃xs ms clock,aC.val n=some (.l xs)/\w.heap[q.bl]? = some (.map ms clock)/\qg η.ro kk sz xs ms.toList
 | .pmap es=>(es.map (·.1)).Nodup/\∃ms clock ms',w.heap[q.bl]? = some (.map ms clock)/\ms.toList.Perm ms'/\ms'.length=es.length/\∀ (k:Nat) e,es[k]? = some e->∃m,ms'[k]? = some m/\m.key=.string ⟨⟨e.1⟩⟩/\VR η e.2 m.val
 | .iterM none=>q.ba=0/\∃since last,w.heap[q.bl]? = some (.mapIter none since #[] last)
 | .iterM (some m)=>q.ba=0/\∃since last q',η m=some q'/\w.heap[q.bl]? = some (.mapIter (some q'.bl) since #[] last)
theorem pV.mono {P:Program} {η η':Env} (h:η.le η') {q:Place} {c:List AV} {et:TypeId} {rw opn:Bool} {cs:Array Value} {elem:TypeId} {fr:Nat×Nat}
 (r:pV P η q c et rw opn cs elem fr):pV P η' q c et rw opn cs elem fr:=
 { r with cell:=λk a hk=>by obtain ⟨x,hx,hv⟩:=r.cell k a hk;exact ⟨x,hx,VR.mono h _ _ hv⟩ }
theorem OR.mono {P:Program} {η η':Env} (h:η.le η') {q:Place} {w:World} {o:aZ} (r:OR P η q w o):OR P η' q w o:=by
 cases o with
 | cells c et rw opn=>obtain ⟨cs,elem,fr,h1,h2⟩:=r;exact ⟨cs,elem,fr,h1,h2.mono h⟩
 | iter s pos=>exact r
 | map es=>
   obtain ⟨ms,clock,h1,h2,h3⟩:=r;refine ⟨ms,clock,h1,h2,λk e hk=>?_⟩;obtain ⟨m,hm,ha,hb⟩:=h3 k e hk;exact ⟨m,hm,VR.mono h _ _ ha,VR.mono h _ _ hb⟩
 | iterM m=>
   cases m with
   | none=>exact r
   | some m=>
     obtain ⟨h0,since,last,q',h1,h2⟩:=r;exact ⟨h0,since,last,q',h.pl _ _ h1,h2⟩
 | smap n kk sz=>
   obtain ⟨xs,ms,clock,h1,h2,h3⟩:=r;exact ⟨xs,ms,clock,h1,h2,h3.mono h.ro⟩
 | pmap es=>
   obtain ⟨hn,ms,clock,ms',h1,hp,h2,h3⟩:=r;refine ⟨hn,ms,clock,ms',h1,hp,h2,λk e hk=>?_⟩;obtain ⟨m,hm,ha,hb⟩:=h3 k e hk;exact ⟨m,hm,ha,VR.mono h _ _ hb⟩
 | vec n et f=>
   obtain ⟨xs,cs,elem,fr,ys,h1,h2,h3,h4,h5,h6,h7,h8⟩:=r;exact ⟨xs,cs,elem,fr,ys,h1,h2,aK.mono h.ro _ _ h3,h4,h5,h6,h7.mono h,h8⟩
theorem OR.heap {P:Program} {η:Env} {q:Place} {w w':World} {o:aZ} (h:w'.heap[q.bl]? = w.heap[q.bl]?) (r:OR P η q w o):OR P η q w' o:=by
 cases o with
 | iterM m=>cases m<;>simp only [OR] at r ⊢<;>rw [h]<;>exact r
 | _=>simp only [OR] at r ⊢;rw [h];exact r
def Am (η:Env) (g:Nat) (c:List AV):Prop:=∃cs elem fr,η.ro g=some (.cells cs elem fr)/\c.length<=cs.size/\∀ (k:Nat) a,c[k]? = some a->∃x,cs[k]? = some x/\a.toVal 4=some x
theorem Am.mono {η η':Env} {g:Nat} {c:List AV} (h:Am η g c) (hle:η.le η'):Am η' g c:=by
 obtain ⟨cs,elem,fr,h1,h2⟩:=h;exact ⟨cs,elem,fr,hle.ro _ _ h1,h2⟩
def Live (P:Program) (η:Env) (w:World) (id:Nat) (o:aZ):Prop:=(∃q,η id=some q/\OR P η q w o)\/(η.gh id=true/\∃n et f,o=.vec n et f/\aC.val n=some (.l []))
theorem Live.mono {P:Program} {η η':Env} (h:η.le η') {w:World} {id:Nat} {o:aZ} (r:Live P η w id o):Live P η' w id o:=by
 rcases r with ⟨q,hq,hr⟩ | ⟨hg,h2⟩
 ·exact .inl ⟨q,h.pl _ _ hq,hr.mono h⟩
 ·exact .inr ⟨h.gh _ hg,h2⟩
theorem Live.heap {P:Program} {η:Env} {w w':World} {id:Nat} {o:aZ} (r:Live P η w id o) (h:∀q,η id=some q->OR P η q w o->w'.heap[q.bl]? = w.heap[q.bl]?):Live P η w' id o:=by
 rcases r with ⟨q,hq,hr⟩ | h2
 ·exact .inl ⟨q,hq,OR.heap (h q hq hr) hr⟩
 ·exact .inr h2
structure SR (P:Program) (η:Env) (σ:aj) (w:World):Prop where
 ku:∀g,g<=P.globals.size->∃sz es,η g=some ⟨g,0,sz,es⟩
 dom:∀id q,η id=some q->id < σ.next
 live:∀id o,σ.get id=some o->Live P η w id o
 iI:∀id,η.gh id=true->η id=none/\id < σ.next
 sep:∀id o id' o' q q',σ.get id=some o->o.own=true->σ.get id'=some o'->id≠id'->η id=some q->η id'=some q'->q.bl≠q'.bl
 gV:∀b o,η.ro b=some o->w.heap[b]? = some o
 jy:∀id o q,σ.get id=some o->o.own=true->η id=some q->η.ro q.bl=none
 tabs:∀p∈aC.tabs,Am η p.1 p.2
def aZ.ahK:aZ->Bool
 | .vec _ _ _=>true
 | _=>false
theorem SR.obj {P:Program} {η:Env} {σ:aj} {w:World} (h:SR P η σ w):∀id o,σ.get id=some o->o.ahK=false->∃q,η id=some q/\OR P η q w o:=by
 intro id o ho hv;rcases h.live id o ho with h1 | ⟨_,n,et,f,rfl,_⟩
 ·exact h1
 ·cases hv
theorem SR.at {P:Program} {η:Env} {σ:aj} {w:World} (h:SR P η σ w) {id:Nat} {o:aZ} {q:Place} (ho:σ.get id=some o) (hq:η id=some q):OR P η q w o:=by
 rcases h.live id o ho with ⟨q',hq',hr⟩ | ⟨hg,_⟩
 ·rw [hq] at hq';cases hq';exact hr
 ·rw [(h.iI id hg).1] at hq;cases hq
structure St (P:Program) (η:Env) (σ:aj) (w:World) (η':Env) (σ':aj) (w':World):Prop where
 ext:η.le η'
 rel:SR P η' σ' w'
 size:w.heap.size<=w'.heap.size
 keep:∀bl,bl < w.heap.size->(∀id o q,σ.get id=some o->o.own=true->σ.lock<=id->η id=some q->q.bl≠bl)->w'.heap[bl]? = w.heap[bl]?
 own:∀id o q,σ'.get id=some o->o.own=true->σ.lock<=id->η' id=some q->w.heap.size<=q.bl\/∃bZ o0 q0,σ.get bZ=some o0/\o0.own=true/\σ.lock<=bZ/\η bZ=some q0/\q0.bl=q.bl
 os:w'.os=w.os
 tape:w'.tape=w.tape
 output:w'.output=w.output
 lock:σ'.lock=σ.lock
 next:σ.next<=σ'.next
 new:∀id,η'.has id->η.has id\/(σ.next<=id/\id < σ'.next)
 oM:∀b,η'.ro b≠none->η.ro b≠none\/w.heap.size<=b\/∃bZ o0 q0,σ.get bZ=some o0/\o0.own=true/\σ.lock<=bZ/\η bZ=some q0/\q0.bl=b
theorem St.refl {P:Program} {η:Env} {σ:aj} {w:World} (h:SR P η σ w):St P η σ w η σ w:=
 ⟨Env.le.refl _,h,cZ _,λ_ _ _=>rfl,λid o q h1 h2 h3 h4=>.inr ⟨id,o,q,h1,h2,h3,h4,rfl⟩,rfl,rfl,rfl,rfl,cZ _,λ_ h=>.inl h,λ_ h=>.inl h⟩
theorem St.trans {P:Program} {η η1 η2:Env} {σ σ1 σ2:aj} {w w1 w2:World} (h:St P η σ w η1 σ1 w1) (k:St P η1 σ1 w1 η2 σ2 w2):St P η σ w η2 σ2 w2:=by
 refine ⟨h.ext.trans k.ext,k.rel,jF h.size k.size, ?_, ?_,k.os.trans h.os,k.tape.trans h.tape,k.output.trans h.output,k.lock.trans h.lock,jF h.next k.next, ?_, ?_⟩;rotate_right
 ·intro b hb
  rcases k.oM b hb with h1 | h1 | ⟨bZ,o0,q0,a1,b1,c1,d1,e1⟩
  ·exact h.oM b h1
  ·exact .inr (.inl (jF h.size h1))
  ·rcases h.own bZ o0 q0 a1 b1 (h.lock ▸ c1) d1 with h2 | ⟨id2,o2,q2,a2,b2,c2,d2,e2⟩
   ·right;left;omega
   ·exact .inr (.inr ⟨id2,o2,q2,a2,b2,c2,d2,e2.trans e1⟩)
 rotate_right
 ·intro id hq
  rcases k.new id hq with h1 | ⟨h1,h2⟩
  ·rcases h.new id h1 with h3 | ⟨h3,h4⟩
   ·exact .inl h3
   ·exact .inr ⟨h3,uD h4 k.next⟩
  ·exact .inr ⟨Nat.le_trans h.next h1,h2⟩
 ·intro bl hbl hno
  rw [k.keep bl (uD hbl h.size) ?_,h.keep bl hbl hno];intro id o q h1 h2 h3 h4;rcases h.own id o q h1 h2 (h.lock ▸ h3) h4 with h5 | ⟨bZ,o0,q0,a,b,c,d,e⟩
  ·omega
  ·rw [<- e];exact hno bZ o0 q0 a b c d
 ·intro id o q h1 h2 h3 h4
  rcases k.own id o q h1 h2 (by rw [h.lock];exact h3) h4 with h5 | ⟨bZ,o0,q0,a,b,c,d,e⟩
  ·exact .inl (jF h.size h5)
  ·rcases h.own bZ o0 q0 a b (h.lock ▸ c) d with h6 | ⟨id1,o1,q1,a1,b1,c1,d1,e1⟩
   ·left;omega
   ·exact .inr ⟨id1,o1,q1,a1,b1,c1,d1,e1.trans e⟩
theorem SR.hasLt {P:Program} {η:Env} {σ:aj} {w:World} (h:SR P η σ w) {id:Nat} (hh:η.has id):id < σ.next:=hh.elim (λ⟨q,hq⟩=>h.dom id q hq) λhg=>(h.iI id hg).2
theorem SR.Jy {P:Program} {η:Env} {σ:aj} {w:World} (h:SR P η σ w) {id:Nat} {o:aZ} (ho:σ.get id=some o):η.has id:=(h.live id o ho).elim (λ⟨q,hq,_⟩=>.inl ⟨q,hq⟩) λ⟨hg,_⟩=>.inr hg
theorem St.ai3 {P:Program} {η η':Env} {σ σ':aj} {w w':World} (h:St P η σ w η' σ' w') {id:Nat} {q:Place} (hq:η' id=some q):η id=some q\/(σ.next<=id/\id < σ'.next):=by
 rcases h.new id (.inl ⟨q,hq⟩) with (⟨p,hp⟩ | hg) | hn
 ·have:=h.ext.pl _ _ hp
  rw [hq] at this;cases this;exact .inl hp
 ·have:=(h.rel.iI id (h.ext.gh _ hg)).1
  rw [hq] at this;cases this
 ·exact .inr hn
theorem SR.drew {P:Program} {η:Env} {σ:aj} {w:World} (h:SR P η σ w):SR P η σ { w with drawn:=w.drawn+1 }:=
 ⟨h.ku,h.dom,λid o ho=>(h.live id o ho).heap (w:=w) (λ_ _ _=>rfl),h.iI,h.sep,h.gV,h.jy,h.tabs⟩
theorem St.drew {P:Program} {η:Env} {σ:aj} {w:World} (h:SR P η σ w):St P η σ w η σ { w with drawn:=w.drawn+1 }:=
 ⟨Env.le.refl _,h.drew,cZ _,λ_ _ _=>rfl,λid o q h1 h2 h3 h4=>.inr ⟨id,o,q,h1,h2,h3,h4,rfl⟩,rfl,rfl,rfl,rfl,cZ _,λ_ h=>.inl h,λ_ h=>.inl h⟩
end
end Go.aJ
namespace Go.aJ
set_option linter.unusedSimpArgs false
noncomputable section
variable [aC]
set_option linter.unusedSectionVars false
set_option linter.unusedVariables false
theorem oD (bl off n:Nat):(⟨bl,off,none⟩:Addr).add n=⟨bl,off+n,none⟩:=by
 unfold Addr.add;split
 ·next h=>simp [h]
 ·rfl
theorem Jg {w:World} {bl off:Nat} {cs:Array Value} {elem:TypeId} {fr:Nat×Nat} (h:w.heap[bl]? = some (.cells cs elem fr)) :
 w.cell? ⟨bl,off,none⟩=cs[off]?:=by
 simp [World.cell?,h]
theorem ZU {w:World} {bl off:Nat} {cs:Array Value} {elem:TypeId} {fr:Nat×Nat} (h:w.heap[bl]? = some (.cells cs elem fr)) :
 w.frozen? ⟨bl,off,none⟩=(decide (fr.1<=off)&&decide (off < fr.2)):=by
 simp [World.frozen?,h]
theorem run_loadCellsFrom {P:Program} {w:World} {bl off:Nat} {cs:Array Value} {elem:TypeId} {fr:Nat×Nat} (h:w.heap[bl]? = some (.cells cs elem fr)) :
 ∀ (n i:Nat) (acc:Array Value),off+i+n<=cs.size->
   (loadCellsFrom ⟨bl,off,none⟩ i n acc).run P w=.ok (acc++(cs.toList.drop (off+i)).take n) w:=by
 intro n;induction n with
 | zero=>intro i acc _;simp [loadCellsFrom]
 | succ n ih=>
   intro i acc hle;have hlt:off+i < cs.size:=by omega
   have hc:w.cell? ⟨bl,off+i,none⟩=some cs[off+i]:=by rw [Jg h];simp [hlt]
   simp only [loadCellsFrom,aS,oD];have hl:(load ⟨bl,off+i,none⟩).run P w=.ok cs[off+i] w:=by simp [load,Sem.run,hc]
   rw [hl];simp only [aQ];rw [ih (i+1) _ (by omega)];congr 1;have:cs.toList.drop (off+i)=cs[off+i]::cs.toList.drop (off+(i+1)):=by
    rw [kS (by simpa using hlt)];simp [gX]
   rw [this];simp
theorem run_loadCells {P:Program} {w:World} {bl off n:Nat} {cs:Array Value} {elem:TypeId} {fr:Nat×Nat} (h:w.heap[bl]? = some (.cells cs elem fr)) (hle:off+n<=cs.size) :
 (loadCells ⟨bl,off,none⟩ n).run P w=.ok ⟨(cs.toList.drop off).take n⟩ w:=by
 unfold loadCells;rw [run_loadCellsFrom h n 0 #[] (by simpa using hle)];simp
theorem acj {P:Program} {w:World} {bl off:Nat} {cs:Array Value} {elem:TypeId} {fr:Nat×Nat} {x:Value} (h:w.heap[bl]? = some (.cells cs elem fr)) (hx:cs[off]? = some x) :
 (load ⟨bl,off,none⟩).run P w=.ok x w:=by
 have hc:w.cell? ⟨bl,off,none⟩=some x:=by rw [Jg h,hx]
 simp [load,Sem.run,hc]
def setFrom (cs:Array Value) (off:Nat):List Value->Array Value
 | []=>cs
 | v::vs=>setFrom (cs.setIfInBounds off v) (off+1) vs
theorem H9:∀ (vs:List Value) (cs:Array Value) (off:Nat),(setFrom cs off vs).size=cs.size
 | [],_,_=>rfl
 | v::vs,cs,off=>by rw [setFrom,H9 vs];simp
theorem O9:∀ (vs:List Value) (cs:Array Value) (off k:Nat),off+vs.length<=cs.size->
 (setFrom cs off vs)[k]? = if off<=k/\k < off+vs.length then vs[k - off]? else cs[k]?
 | [],cs,off,k,h=>by simp [setFrom];omega
 | v::vs,cs,off,k,h=>by
   simp only [jT] at h;rw [setFrom,O9 vs _ _ _ (by simp;omega)];by_cases h1:off+1<=k/\k < off+1+vs.length
   ·rw [ak h1,ak ⟨by omega,by simp;omega⟩]
    have:k - off=(k - (off+1))+1:=by omega
    rw [this];simp
   ·rw [ah h1]
    by_cases h2:k=off
    ·subst h2
     rw [ak ⟨Nat.le_refl _,by simp⟩];have hk:k < cs.size:=by omega
     simp [hk]
    ·rw [ah (by simp only [jT];omega)]
     rw [yO,ah (λe=>h2 e.symm)]
def kC (w:World) (bl:Nat) (o:Obj):World:={ w with heap:=w.heap.setIfInBounds bl o }
theorem yG {w:World} {bl:Nat} {o o':Obj} (h:w.heap[bl]? = some o):(kC w bl o').heap[bl]? = some o':=by
 have:bl < w.heap.size:=(oh.1 h).1;simp [kC,this]
theorem zS {w:World} {bl k:Nat} {o':Obj} (h:k≠bl):(kC w bl o').heap[k]? = w.heap[k]?:=by
 simp only [kC];rw [yO,ah (λe=>h e.symm)]
theorem zT {w:World} {bl:Nat} {o':Obj}:(kC w bl o').heap.size=w.heap.size:=by simp [kC]
theorem alN {w:World} {bl:Nat} {o o':Obj}:kC (kC w bl o) bl o'=kC w bl o':=by
 simp only [kC];congr 1;apply KT;intro i;simp only [yO,Array.size_setIfInBounds];split<;>rfl
theorem setCell_eq {w:World} {bl off:Nat} {cs:Array Value} {elem:TypeId} {fr:Nat×Nat} (h:w.heap[bl]? = some (.cells cs elem fr)) (v:Value) :
 w.setCell ⟨bl,off,none⟩ v=kC w bl (.cells (cs.setIfInBounds off v) elem fr):=by
 unfold World.setCell kC;congr 1;apply KT;intro i;rw [Ez,yO];by_cases e:bl=i
 ·subst e
  have:bl < w.heap.size:=(oh.1 h).1;rw [ak rfl,ak rfl,ak this,h];rfl
 ·rw [ah e,ah e]
theorem alM {w:World} {bl:Nat} {o:Obj} (h:w.heap[bl]? = some o):kC w bl o=w:=by
 unfold kC;have:w.heap.setIfInBounds bl o=w.heap:=by
  apply KT;intro i;rw [yO];by_cases e:bl=i
  ·subst e
   have:bl < w.heap.size:=(oh.1 h).1;rw [ak rfl,ak this,h]
  ·rw [ah e]
 rw [this]
def nZ:Value->Bool
 | .agg _ | .tuple _=>false
 | _=>true
theorem VH {P:Program}:∀ (vs:List Value) (w:World) (bl off i:Nat) (cs:Array Value) (elem:TypeId) (fr:Nat×Nat),
 w.heap[bl]? = some (.cells cs elem fr)->off+i+vs.length<=cs.size->(∀v∈vs,nZ v=true)->
 (∀k,off+i<=k->k < off+i+vs.length->¬ (fr.1<=k/\k < fr.2))->
 (storeCells ⟨bl,off,none⟩ vs i).run P w=.ok () (kC w bl (.cells (setFrom cs (off+i) vs) elem fr))
 | [],w,bl,off,i,cs,elem,fr,h,_,_,_=>by simp [storeCells,setFrom,alM h]
 | v::vs,w,bl,off,i,cs,elem,fr,h,hle,hone,hfr=>by
   simp only [jT] at hle hfr;have hlt:off+i < cs.size:=by omega
   have hc:w.cell? ⟨bl,off+i,none⟩=some cs[off+i]:=by rw [Jg h];simp [hlt]
   have hf:w.frozen? ⟨bl,off+i,none⟩=false:=by
    rw [ZU h];have:=hfr (off+i) (by omega) (by omega);simpa using this
   have hv:=hone v (by simp);have hs:(store ⟨bl,off+i,none⟩ v).run P w=.ok () (kC w bl (.cells (cs.setIfInBounds (off+i) v) elem fr)):=by
    rw [<- setCell_eq h];cases v<;>simp [nZ] at hv<;>simp [store,Sem.run,hc,hf]
   simp only [storeCells,aS,oD,hs,aQ];rw [VH vs _ bl off (i+1) (cs.setIfInBounds (off+i) v) elem fr (yG h) (by simp;omega) (λx hx=>hone x (by simp [hx])) (λk h1 h2=>hfr k (by omega) (by omega))];rw [alN];rfl
def Env.put (η:Env) (id:Nat) (q:Place):Env:=⟨λk=>if k=id then some q else η k,η.ro,η.gh⟩
theorem Env.D8 {P:Program} {η:Env} {σ:aj} {w:World} (h:SR P η σ w) (q:Place):η.le (η.put σ.next q):=by
 refine ⟨λid p hp=>?_,λ_ _ h=>h,λ_ h=>h⟩;have:=h.dom id p hp;simp only [Env.put];rw [ah (by omega)];exact hp
theorem tC {w:World} {k:Nat} {o:Obj} (h:w.heap[k]? = some o):k < w.heap.size:=(oh.1 h).1
theorem OR.lt {P:Program} {η:Env} {q:Place} {w:World} {o:aZ} (h:OR P η q w o):q.bl < w.heap.size:=by
 cases o with
 | cells c et rw opn=>obtain ⟨cs,elem,fr,h1,_⟩:=h;exact tC h1
 | iter s pos=>exact tC h.1
 | map es=>obtain ⟨ms,clock,h1,_⟩:=h;exact tC h1
 | iterM m=>cases m with
   | none=>obtain ⟨_,_,_,h1⟩:=h;exact tC h1
   | some m=>obtain ⟨_,_,_,_,_,h1⟩:=h;exact tC h1
 | vec n et f=>obtain ⟨_,_,_,_,_,_,h1,_⟩:=h;exact tC h1
 | smap n kk sz=>obtain ⟨_,_,_,_,h1,_⟩:=h;exact tC h1
 | pmap es=>obtain ⟨_,_,_,_,h1,_⟩:=h;exact tC h1
theorem Env.ab4 {P:Program} {η:Env} {σ:aj} {w:World} (h:SR P η σ w) (q:Place) {n:Nat} (hn:σ.next < n):∀id,(η.put σ.next q).gh id=true->(η.put σ.next q) id=none/\id < n:=by
 intro id hid;obtain ⟨h1,h2⟩:=h.iI id hid;refine ⟨?_,by omega⟩;simp only [Env.put];rw [ah (by omega)];exact h1
theorem St.alloc {P:Program} {η:Env} {σ:aj} {w:World} (h:SR P η σ w) (o:aZ) (oc:Obj) (q:Place) (hq:q.bl=w.heap.size)
 (ho:OR P (η.put σ.next q) q { w with heap:=w.heap.push oc } o):St P η σ w (η.put σ.next q) (σ.new o) { w with heap:=w.heap.push oc }:=by
 have hle:=Env.D8 h q;have hat:∀k,k < w.heap.size->(w.heap.push oc)[k]? = w.heap[k]?:=λk hk=>by rw [EC,ah (by omega)]
 have aao:∀b o,η.ro b=some o->b < w.heap.size:=λb o hb=>tC (h.gV b o hb);refine ⟨hle,⟨?_, ?_, ?_,Env.ab4 h q (Aj _), ?_,λb o hb=>?_,λid o1 p a1 a2 a3=>?_,λp hp=>(h.tabs p hp).mono hle⟩,by simp,λbl hbl _=>hat bl hbl, ?_,rfl,rfl,rfl,rfl,Nat.le_succ _, ?_,λ_ h=>.inl h⟩;rotate_right
 ·rintro id (⟨p,hp⟩ | hg)
  ·simp only [Env.put] at hp
   split at hp
   ·next e=>subst e;exact .inr ⟨Nat.le_refl _,Aj _⟩
   ·exact .inl (.inl ⟨p,hp⟩)
  ·exact .inl (.inr hg)
 ·intro g hg;obtain ⟨sz,es,h1⟩:=h.ku g hg;exact ⟨sz,es,hle.pl _ _ h1⟩
 ·intro id p hp
  simp only [Env.put] at hp;show id < σ.next+1
  split at hp
  ·omega
  ·have:=h.dom id p hp;omega
 ·intro id o' ho'
  rw [aj.oJ] at ho';split at ho'
  ·next e=>cases ho';subst e;exact .inl ⟨q,by simp [Env.put],ho⟩
  ·exact ((h.live id o' ho').heap (w:=w) (λp _ hr=>hat _ hr.lt)).mono hle
 ·intro id o1 id' o2 p p' h1 h2 h3 h4 h5 h6
  rw [aj.oJ] at h1 h3;simp only [Env.put] at h5 h6;split at h1<;>split at h3
  ·omega
  ·next e e'=>
   rw [ak e] at h5;rw [ah e'] at h6;cases h5;have:=(h.at h3 h6).lt;omega
  ·next e e'=>
   rw [ah e] at h5;rw [ak e'] at h6;cases h6;have:=(h.at h1 h5).lt;omega
  ·next e e'=>
   rw [ah e] at h5;rw [ah e'] at h6;exact h.sep id o1 id' o2 p p' h1 h2 h3 h4 h5 h6
 ·exact (hat b (aao b o hb)).trans (h.gV b o hb)
 ·rw [aj.oJ] at a1
  simp only [Env.put] at a3 ⊢;split at a1
  ·next e=>
   rw [ak e] at a3;cases a3;cases hro:η.ro q.bl with
   | none=>rfl
   | some o2=>have:=aao _ _ hro;omega
  ·next e=>rw [ah e] at a3;exact h.jy id o1 p a1 a2 a3
 ·intro id o1 p h1 h2 h3 h4
  rw [aj.oJ] at h1;simp only [Env.put] at h4;split at h1
  ·next e=>rw [ak e] at h4;cases h4;left;omega
  ·next e=>rw [ah e] at h4;exact .inr ⟨id,o1,p,h1,h2,h3,h4,rfl⟩
theorem St.write {P:Program} {η:Env} {σ:aj} {w w':World} (h:SR P η σ w) {id:Nat} {o o':aZ} {q:Place} (hg:σ.get id=some o) (ho:o.own=true) (hl:σ.lock<=id)
 (hq:η id=some q) (hsz:w'.heap.size=w.heap.size) (hk:∀k,k≠q.bl->w'.heap[k]? = w.heap[k]?) (h1:w'.os=w.os) (h2:w'.tape=w.tape) (h3:w'.output=w.output)
 (hr:OR P η q w' o'):St P η σ w η (σ.put id o') w':=by
 have hro:=h.jy id o q hg ho hq;refine ⟨Env.le.refl _,⟨h.ku,h.dom, ?_,h.iI, ?_,λb o2 hb=>?_,λid2 o2 p a1 a2 a3=>?_,h.tabs⟩,by omega, ?_, ?_,h1,h2,h3,rfl,cZ _,λ_ h=>.inl h,λ_ h=>.inl h⟩
 ·intro id' o2 h4
  rw [aj.get_put] at h4;split at h4
  ·next e=>cases h4;subst e;exact .inl ⟨q,hq,hr⟩
  ·next e=>exact (h.live id' o2 h4).heap (w:=w) λp hp _=>hk _ (h.sep id o id' o2 q p hg ho h4 (λe'=>e e'.symm) hq hp).symm
 ·intro id1 o1 id2 o2 p p' a b c d e f
  rw [aj.get_put] at a c;split at a<;>split at c
  ·omega
  ·next e1 e2=>subst e1;exact h.sep id1 o id2 o2 p p' hg ho c d e f
  ·next e1 e2=>subst e2;exact h.sep id1 o1 id2 o p p' a b hg d e f
  ·exact h.sep id1 o1 id2 o2 p p' a b c d e f
 ·rw [hk b (λe=>by rw [e] at hb;rw [hro] at hb;cases hb)];exact h.gV b o2 hb
 ·rw [aj.get_put] at a1
  split at a1
  ·next e=>subst e;rw [hq] at a3;cases a3;exact hro
  ·exact h.jy id2 o2 p a1 a2 a3
 ·intro bl hbl hno
  exact hk bl (hno id o q hg ho hl hq).symm
 ·intro id1 o1 p a b c d
  rw [aj.get_put] at a;split at a
  ·next e=>subst e;exact .inr ⟨id1,o,p,hg,ho,hl,d,rfl⟩
  ·exact .inr ⟨id1,o1,p,a,b,c,d,rfl⟩
theorem St.again {P:Program} {η:Env} {σ:aj} {w w':World} (h:SR P η σ w) {id:Nat} {o o':aZ} {q q':Place} (hg:σ.get id=some o) (ho:o.own=true) (hl:σ.lock<=id)
 (hq:η id=some q) (hq':q'.bl=q.bl) (hsz:w'.heap.size=w.heap.size) (hk:∀k,k≠q.bl->w'.heap[k]? = w.heap[k]?) (h1:w'.os=w.os) (h2:w'.tape=w.tape) (h3:w'.output=w.output)
 (hr:OR P (η.put σ.next q') q' w' o'):St P η σ w (η.put σ.next q') ((σ.kill id).new o') w':=by
 have hle:=Env.D8 h q';have hid:id < σ.next:=h.dom id q hq;have get:∀k,((σ.kill id).new o').get k=if k=σ.next then some o' else if k=id then none else σ.get k:=λk=>by
  rw [aj.oJ,aj.vT];rfl
 have hro:=h.jy id o q hg ho hq;refine ⟨hle,⟨?_, ?_, ?_,Env.ab4 h q' (Aj _), ?_,λb o2 hb=>?_,λid2 o2 p a1 a2 a3=>?_,λp hp=>(h.tabs p hp).mono hle⟩,by omega, ?_, ?_,h1,h2,h3,rfl,Nat.le_succ _, ?_,λ_ h=>.inl h⟩;rotate_right
 ·rintro id (⟨p,hp⟩ | hg)
  ·simp only [Env.put] at hp
   split at hp
   ·next e=>subst e;exact .inr ⟨Nat.le_refl _,Aj _⟩
   ·exact .inl (.inl ⟨p,hp⟩)
  ·exact .inl (.inr hg)
 ·intro g hg;obtain ⟨sz,es,h1⟩:=h.ku g hg;exact ⟨sz,es,hle.pl _ _ h1⟩
 ·intro k p hp
  simp only [Env.put] at hp;show k < σ.next+1
  split at hp
  ·omega
  ·have:=h.dom k p hp;omega
 ·intro k o2 h4
  rw [get] at h4;split at h4
  ·next e=>cases h4;subst e;exact .inl ⟨q',by simp [Env.put],hr⟩
  ·split at h4
   ·cases h4
   ·next e e2=>exact ((h.live k o2 h4).heap (w:=w) λp hp _=>hk _ (h.sep id o k o2 q p hg ho h4 (λe'=>e2 e'.symm) hq hp).symm).mono hle
 ·intro id1 o1 id2 o2 p p' a b c d e f
  rw [get] at a c;simp only [Env.put] at e f;split at a<;>split at c
  ·omega
  ·next e1 e2=>
   split at c
   ·cases c
   ·next e3=>
    rw [ak e1] at e;rw [ah e2] at f;cases e;rw [hq'];exact h.sep id o id2 o2 q p' hg ho c (λe'=>e3 e'.symm) hq f
  ·next e1 e2=>
   split at a
   ·cases a
   ·next e3=>
    rw [ah e1] at e;rw [ak e2] at f;cases f;rw [hq'];exact h.sep id1 o1 id o p q a b hg e3 e hq
  ·next e1 e2=>
   split at a
   ·cases a
   ·split at c
    ·cases c
    ·rw [ah e1] at e;rw [ah e2] at f
     exact h.sep id1 o1 id2 o2 p p' a b c d e f
 ·rw [hk b (λe=>by rw [e] at hb;have hb':η.ro q.bl=some o2:=hb;rw [hro] at hb';cases hb')];exact h.gV b o2 hb
 ·rw [get] at a1
  simp only [Env.put] at a3 ⊢;split at a1
  ·next e=>rw [ak e] at a3;cases a3;rw [hq'];exact hro
  ·next e=>
   rw [ah e] at a3;split at a1
   ·cases a1
   ·exact h.jy id2 o2 p a1 a2 a3
 ·intro bl hbl hno
  exact hk bl (hno id o q hg ho hl hq).symm
 ·intro id1 o1 p a b c d
  rw [get] at a;simp only [Env.put] at d;split at a
  ·next e=>rw [ak e] at d;cases d;exact .inr ⟨id,o,q,hg,ho,hl,hq,hq'.symm⟩
  ·next e=>
   rw [ah e] at d;split at a
   ·cases a
   ·exact .inr ⟨id1,o1,p,a,b,c,d,rfl⟩
theorem SR.sub {P:Program} {η:Env} {σ τ:aj} {w:World} (h:SR P η σ w) (hs:∀id o,τ.get id=some o->σ.get id=some o) (hn:σ.next<=τ.next):SR P η τ w:=
 ⟨h.ku,λid q hq=>uD (h.dom id q hq) hn,λid o ho=>h.live id o (hs id o ho),λid hid=>⟨(h.iI id hid).1,uD (h.iI id hid).2 hn⟩,
  λid o id' o' q q' a b c d e f=>h.sep id o id' o' q q' (hs _ _ a) b (hs _ _ c) d e f,h.gV,λid o q a b c=>h.jy id o q (hs _ _ a) b c,h.tabs⟩
theorem St.sub {P:Program} {η η':Env} {σ σ' τ:aj} {w w':World} (h:St P η σ w η' σ' w') (hs:∀id o,τ.get id=some o->σ'.get id=some o) (hn:σ'.next<=τ.next) (hl:τ.lock=σ'.lock):St P η σ w η' τ w':=
 { h with rel:=h.rel.sub hs hn,own:=λid o q a b c d=>h.own id o q (hs _ _ a) b c d,lock:=hl.trans h.lock,next:=jF h.next hn,new:=λid hq=>(h.new id hq).imp (λx=>x) λ⟨a,b⟩=>⟨a,uD b hn⟩ }
end
end Go.aJ
