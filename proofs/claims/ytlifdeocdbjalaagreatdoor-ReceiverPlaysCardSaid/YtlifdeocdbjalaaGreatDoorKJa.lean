/- What the trees compute: plain laws. -/
import Derived.Test.YtlifdeocdbjalaaGreatDoorKJT
import Derived.Test.YtlifdeocdbjalaaGreatDoorAbsPl
import Derived.Test.YtlifdeocdbjalaaGreatDoorAbsGo
import Derived.Test.YtlifdeocdbjalaaGreatDoorAbsTold3
import Derived.Lib.TrimUEq
import Derived.Lib.MapLaws
namespace Go.Proofs.YtlifdeocdbjalaaGreatDoor
open Go Go.aN
set_option linter.unusedSimpArgs false
set_option linter.unusedVariables false
set_option maxRecDepth 100000
namespace J
theorem Nv:∀a b:List UInt8,Op.bytesLess a b=decide (a < b)
 | _,[]=>by simp [Op.bytesLess]
 | [],_::_=>by simp [Op.bytesLess]
 | a::x,b::y=>by
  rw [Op.bytesLess,Nv x y,Bool.eq_iff_iff]
  simp -implicitDefEqProofs [List.cons_lt_cons_iff]
/-- An entry: key and value. A row: its entries and its number. -/
abbrev dh:=List UInt8×List UInt8
abbrev Row:=List dh×Int
def ent (x:dh):GV:=.g [.s x.1,.s x.2]
def row (r:Row):GV:=.g [.l (r.1.map ent),.i .u64 r.2]
@[simp] theorem as1 (x:dh):(ent x).cells=[.s x.1,.s x.2]:=rfl
@[simp] theorem QZ (r:Row):(row r).cells=[.l (r.1.map ent),.i .u64 r.2]:=rfl
@[simp] theorem as2 (x:dh):(ent x).scalar=false:=rfl
@[simp] theorem avi (r:Row):(row r).scalar=false:=rfl
/-- Texts and lists of no more than any machine bears. -/
def jW (d:List dh):Prop:=d.length≤140737488351232∧∀x∈d,x.1.length≤140737488351232∧x.2.length≤140737488351232
def Rows (l:List Row):Prop:=l.length≤140737488351232∧∀r∈l,jW r.1∧0≤r.2∧r.2 < 18446744073709551616
def ny (x:dh):Bool:=decide (x.1.length+x.2.length≤600)
theorem abR (d:List dh) (hd:jW d):∀m i:Nat,i+m=d.length→TT.lim 4 [.l (d.map ent),.i .i64 d.length,.i .i64 i]=some (if (d.drop i).all ny=true then [.i .i64 1] else [.i .i64 0])
 | 0,i,hi=>by
  have h0:d.drop i=[]:=List.drop_eq_nil_of_le (by omega)
  refine au rfl rfl ?_
  have h:¬ ((i:Int) < d.length):=by omega
  simp -implicitDefEqProofs [h,h0]
 | m+1,i,hi=>by
  have hlt:i < d.length:=by omega
  have ih:TT.lim 4 [.l (d.map ent),.i .i64 d.length,.i .i64 ((i:Int)+1)]=_:=abR d hd m (i+1) (by omega)
  refine au rfl rfl ?_
  have h:((i:Int) < d.length):=by omega
  have hw:=wrap64 (n:=(i:Int)+1) (by omega) (by have:=hd.1;omega)
  have hx:=hd.2 d[i] (List.getElem_mem hlt)
  have hw2:=wrap64 (n:=(d[i].1.length:Int)+(d[i].2.length:Int)) (by omega) (by omega)
  have hda:(d.drop i).all ny=(ny d[i]&&(d.drop (i+1)).all ny):=by rw [List.drop_eq_getElem_cons hlt,List.all_cons]
  by_cases hf:(600:Int) < (d[i].1.length:Int)+(d[i].2.length:Int)
  ·have:ny d[i]=false:=by unfold ny;simp;omega
   simp -implicitDefEqProofs [h,hlt,hw2,hf,hda,this]
  ·have:ny d[i]=true:=by unfold ny;simp;omega
   rw [hda,this,Bool.true_and]
   simp -implicitDefEqProofs [h,hlt,hw,hw2,hf,ih]
def fM (d:List dh):Bool:=d.all ny&&decide (d.length≤40)
theorem aaR (d:List dh) (hd:jW d):TT.lim 3 [.l (d.map ent)]=some [.b (fM d)]:=by
 refine aH rfl rfl ?_ rfl
 have h5:TT.lim 4 [.l (d.map ent),.i .i64 d.length,.i .i64 0]=_:=abR d hd d.length 0 (by omega)
 rw [List.drop_zero] at h5
 cases hc:d.all ny with
 | false=>rw [hc] at h5;simp [h5,fM,hc]
 | true=>
  rw [hc] at h5;simp only [if_true] at h5
  have:(decide ((d.length:Int)≤40))=decide (d.length≤40):=by rw [Bool.eq_iff_iff];simp;omega
  simp -implicitDefEqProofs [h5,fM,hc,this]
def dK (n:Nat):List UInt8:=if n < 128 then [UInt8.ofNat n] else UInt8.ofNat (n % 128+128)::dK (n / 128)
termination_by n
decreasing_by omega
theorem wK {n:Nat} (h:n < 128):dK n=[UInt8.ofNat n]:=by rw [dK,if_pos h]
theorem yu {n:Nat} (h:¬ n < 128):dK n=UInt8.ofNat (n % 128+128)::dK (n / 128):=by rw [dK,if_neg h]
theorem LM {a b:Nat} (ha:a < 256) (hb:b < 256) (h:UInt8.ofNat a=UInt8.ofNat b):a=b:=by
 have:=congrArg UInt8.toNat h
 simp at this
 omega
/-- No number's bytes begin another's. -/
theorem Si:∀ (n m:Nat) (x y:List UInt8),dK n++x=dK m++y→n=m∧x=y:=by
 intro n
 induction n using Nat.strongRecOn with
 | _ n ih=>
  intro m x y h
  by_cases hn:n < 128<;>by_cases hm:m < 128
  ·rw [wK hn,wK hm] at h
   simp only [List.cons_append,List.nil_append,List.cons.injEq] at h
   exact ⟨LM (by omega) (by omega) h.1,h.2⟩
  ·rw [wK hn,yu hm] at h
   simp only [List.cons_append,List.nil_append,List.cons.injEq] at h
   have:=LM (by omega) (by omega) h.1
   omega
  ·rw [yu hn,wK hm] at h
   simp only [List.cons_append,List.nil_append,List.cons.injEq] at h
   have:=LM (by omega) (by omega) h.1
   omega
  ·rw [yu hn,yu hm] at h
   simp only [List.cons_append,List.cons.injEq] at h
   have h1:=LM (by omega) (by omega) h.1
   obtain ⟨h2,h3⟩:=ih (n / 128) (by omega) (m / 128) x y h.2
   exact ⟨by omega,h3⟩
def lg (n:Nat):Nat:=(dK n).length
theorem anz {n:Int} (h0:0≤n):n.fdiv (2 ^ (7:Nat))=n / 128:=by
 rw [Int.fdiv_eq_ediv_of_nonneg _ (by decide)];rfl
theorem ad1 {n:Nat}:um .shr .u64 (n:Int) 7=some (.i .u64 ((n / 128:Nat):Int)):=by
 have:((n:Int)).fdiv (2 ^ (7:Nat))=((n / 128:Nat):Int):=by rw [anz (by omega)];omega
 simp -implicitDefEqProofs [um,IntKind.bits]
 exact this
theorem LZ (n:Nat):0 < lg n:=by unfold lg;rw [dK];split<;>simp
theorem LY {n:Nat} (h:¬ n < 128):lg n=lg (n / 128)+1:=by unfold lg;rw [yu h];rfl
theorem aeJ:∀ (k n:Nat),0 < k→n < 128 ^ k→lg n≤k
 | 0,_,h,_=>by omega
 | k+1,n,_,h=>by
  by_cases hn:n < 128
  ·unfold lg;rw [wK hn];simp
  ·rw [LY hn]
   cases k with
   | zero=>simp at h;omega
   | succ k=>
    have:n / 128 < 128 ^ (k+1):=by rw [Nat.pow_succ] at h;omega
    have:=aeJ (k+1) (n / 128) (by omega) this
    omega
theorem Sm {n:Nat} (h:n < 18446744073709551616):lg n≤10:=aeJ 10 n (by omega) (by omega)
theorem ajK:∀ (n s:Nat),s+lg n≤1000→n < 18446744073709551616→TT.lim 10 [.i .u64 n,.i .i64 s]=some [.i .i64 0,.i .i64 ((s+lg n - 1:Nat):Int)]:=by
 intro n
 induction n using Nat.strongRecOn with
 | _ n ih=>
  intro s hs hn
  refine au rfl rfl ?_
  by_cases h:n < 128
  ·have h':¬ (128:Int)≤n:=by omega
   simp -implicitDefEqProofs [h',lg,wK h]
  ·have h':(128:Int)≤n:=by omega
   have hv:=LY h
   have hp:=LZ (n / 128)
   have hw:=wrap64 (n:=(s:Int)+1) (by omega) (by omega)
   have ih':TT.lim 10 [.i .u64 ((n / 128:Nat):Int),.i .i64 ((s:Int)+1)]=_:=ih (n / 128) (by omega) (s+1) (by omega) (by omega)
   have hn':s+lg n - 1=s+1+lg (n / 128) - 1:=by omega
   rw [hn']
   have h7:um .shr .u64 (n:Int) 7=some (.i .u64 ((n / 128:Nat):Int)):=ad1
   generalize ((n / 128:Nat):Int)=q at h7 ih'
   simp -implicitDefEqProofs [h',hw,h7,ih']
theorem anA (n:Nat) (hn:n < 18446744073709551616):TT.lim 9 [.i .u64 n]=some [.i .i64 (lg n)]:=by
 have hp:=LZ n
 have h9:TT.lim 10 [.i .u64 n,.i .i64 1]=_:=ajK n 1 (by have:=Sm hn;omega) hn
 rw [show 1+lg n - 1=lg n by omega] at h9
 refine aH rfl rfl ?_ rfl
 simp -implicitDefEqProofs [h9]
/-- The bytes of a number, each with its high bit set. -/
def iK:Nat→Nat→List Nat
 | 0,_=>[]
 | k+1,n=>(n % 128+128)::iK k (n / 128)
def fK (n:Nat):GV:=.i .u8 n
theorem ae2 (n:Nat) (hn:n < 18446744073709551616):gK .and .u64 (n:Int) 127=some (.i .u64 ((n % 128:Nat):Int)):=by
 have h1:((BitVec.ofInt 64 (n:Int) &&& BitVec.ofInt 64 127).toNat:Nat)=n % 128:=by
  rw [BitVec.toNat_and,BitVec.toNat_ofInt,BitVec.toNat_ofInt]
  have e1:((n:Int) % ((2 ^ 64:Nat):Int)).toNat=n:=by omega
  have e2:((127:Int) % ((2 ^ 64:Nat):Int)).toNat=2 ^ 7 - 1:=by decide
  rw [e1,e2,Nat.and_two_pow_sub_one_eq_mod]
 show some (GV.i .u64 (IntKind.u64.wrap (((BitVec.ofInt 64 (n:Int) &&& BitVec.ofInt 64 127).toNat:Nat):Int)))=_
 rw [h1,jI (by omega) (by omega)]
theorem ae3 (n:Nat) (hn:n < 256):gK .and .u8 (n:Int) 127=some (.i .u8 ((n % 128:Nat):Int)):=by
 have:∀x:Fin 256,IntKind.u8.wrap (((BitVec.ofInt IntKind.u8.bits ((x.val:Nat):Int) &&& BitVec.ofInt IntKind.u8.bits 127).toNat:Nat):Int)=((x.val % 128:Nat):Int):=by decide +kernel
 show some (GV.i .u8 _)=some (GV.i .u8 _)
 exact congrArg (fun z=>some (GV.i .u8 z)) (this ⟨n,hn⟩)
theorem akP (n:Nat) (hn:n < 128):gK .or .u8 (n:Int) 128=some (.i .u8 ((n+128:Nat):Int)):=by
 have:∀x:Fin 128,IntKind.u8.wrap (((BitVec.ofInt IntKind.u8.bits ((x.val:Nat):Int) ||| BitVec.ofInt IntKind.u8.bits 128).toNat:Nat):Int)=((x.val+128:Nat):Int):=by decide +kernel
 show some (GV.i .u8 _)=some (GV.i .u8 _)
 exact congrArg (fun z=>some (GV.i .u8 z)) (this ⟨n,hn⟩)
theorem L9 {n:Int} (h0:0≤n) (h1:n < 256):IntKind.u8.wrap n=n:=by
 have:IntKind.u8.wrap n=n % 256:=by simp [IntKind.wrap,IntKind.signed,IntKind.bits]
 rw [this];omega
@[simp] theorem asL (n:Nat):(fK n).cells=[fK n]:=rfl
@[simp] theorem asN (n:Nat):(fK n).scalar=true:=rfl
@[simp] theorem asM (n:Nat) (v:GV):(fK n).put 0 [v]=some v:=rfl
theorem Nu:∀l:List Nat,(∀x∈l,x < 256)→jJ (l.map fK)=some (l.map UInt8.ofNat)
 | [],_=>rfl
 | a::l,h=>by
  have h1:=h a (by simp)
  have h2:=Nu l fun x hx=>h x (by simp [hx])
  simp only [List.map_cons,fK,jJ] at h2 ⊢
  rw [if_pos (by omega)]
  have:(fun n:Nat=>GV.i .u8 (n:Int))=fK:=rfl
  rw [h2]
  simp
theorem abK:∀ (m n:Nat) (done:List Nat),n < 18446744073709551616→done.length+m < 1000→
 TT.lim 11 [.i .u64 n,.l ((done++List.replicate m 0).map fK),.i .i64 ((done.length+m:Nat):Int),.i .i64 done.length]=some [.i .i64 0,.l ((done++iK m n).map fK)]
 | 0,n,done,hn,hd=>by
  refine au rfl rfl ?_
  simp -implicitDefEqProofs [iK]
 | m+1,n,done,hn,hd=>by
  have hlt:(done.length:Int) < ((done.length+(m+1):Nat):Int):=by omega
  have hw:=wrap64 (n:=(done.length:Int)+1) (by omega) (by omega)
  have hw8:=L9 (n:=((n % 128:Nat):Int)) (by omega) (by omega)
  have h7:um .shr .u64 (n:Int) 7=some (.i .u64 ((n / 128:Nat):Int)):=ad1
  have ha:=ae2 n hn
  have ho:=akP (n % 128) (by omega)
  have ih:=abK m (n / 128) (done++[n % 128+128]) (by omega) (by simp;omega)
  have hlen:(done++[n % 128+128]).length+m=done.length+(m+1):=by simp;omega
  rw [hlen] at ih
  have hl2:(((done++[n % 128+128]).length:Nat):Int)=(done.length:Int)+1:=by simp
  rw [hl2] at ih
  have hset:((done++List.replicate (m+1) 0).map fK).set done.length (fK (n % 128+128))=(done++[n % 128+128]++List.replicate m 0).map fK:=by
   rw [List.replicate_succ,← List.map_set,List.set_append_right _ _ (Nat.le_refl _),Nat.sub_self]
   simp
  have hget:((done++List.replicate (m+1) 0).map fK)[done.length]? = some (fK 0):=by
   rw [List.getElem?_map,List.getElem?_append_right (Nat.le_refl _),Nat.sub_self,List.replicate_succ];rfl
  have hll:((done++List.replicate (m+1) 0).map fK).length=done.length+(m+1):=by simp
  have hv:done++iK (m+1) n=done++[n % 128+128]++iK m (n / 128):=by simp [iK]
  rw [hv]
  generalize hL:(done++List.replicate (m+1) 0).map fK=L at *
  refine au rfl rfl ?_
  have hix:(0:Int)≤(done.length:Int)∧(done.length:Int) < (L.length:Int):=by rw [hll];omega
  have hob:GV.i IntKind.u8 ((n % 128+128:Nat):Int)=fK (n % 128+128):=rfl
  have OW:L.set done.length (GV.i IntKind.u8 ((n % 128+128:Nat):Int))=(done++[n % 128+128]++List.replicate m 0).map fK:=hset
  generalize (done++[n % 128+128]++List.replicate m 0).map fK=L2 at ih OW
  generalize (done++[n % 128+128]++iK m (n / 128)).map fK=L3 at ih ⊢
  generalize ((n / 128:Nat):Int)=q at h7 ih
  generalize ((n % 128+128:Nat):Int)=z at ho OW
  generalize ((n % 128:Nat):Int)=rr at ha hw8 ho
  generalize ((done.length+(m+1):Nat):Int)=N at hlt ih ⊢
  simp -implicitDefEqProofs [hlt,ha,hw8,ho,hix,hget,h7,hw,OW,ih]
theorem Sj:∀m n,(iK m n).length=m
 | 0,_=>rfl
 | m+1,n=>by simp [iK,Sj m]
theorem Sl:∀m n,∀x∈iK m n,x < 256
 | 0,_,x,h=>by simp [iK] at h
 | m+1,n,x,h=>by
  simp only [iK,List.mem_cons] at h
  rcases h with rfl | h
  ·omega
  ·exact Sl m _ x h
/-- The last byte without its high bit: as numbers are written. -/
theorem aeI:∀ (s n:Nat),lg n=s+1→∃x,(iK (s+1) n)[s]? = some x∧((iK (s+1) n).set s (x % 128)).map UInt8.ofNat=dK n
 | 0,n,h=>by
  have hn:n < 128:=by
   by_cases hn:n < 128
   ·exact hn
   ·rw [LY hn] at h;have:=LZ (n / 128);omega
  refine ⟨n % 128+128,by simp [iK], ?_⟩
  rw [wK hn]
  simp -implicitDefEqProofs [iK]
  rw [Nat.mod_eq_of_lt hn]
 | s+1,n,h=>by
  have hn:¬ n < 128:=by
   intro hn
   unfold lg at h;rw [wK hn] at h;simp at h
  rw [LY hn] at h
  obtain ⟨x,h1,h2⟩:=aeI s (n / 128) (by omega)
  refine ⟨x,by simp only [iK,List.getElem?_cons_succ] at h1 ⊢;exact h1, ?_⟩
  rw [yu hn,← h2]
  simp -implicitDefEqProofs [iK]
theorem QN (n:Nat) (hn:n < 18446744073709551616):TT.lim 8 [.i .u64 n]=some [.s (dK n)]:=by
 have h8:=anA n hn
 have hp:=LZ n
 have hs:=Sm hn
 obtain ⟨s,hs1⟩:∃s,lg n=s+1:=⟨lg n - 1,by omega⟩
 obtain ⟨x,h1,h2⟩:=aeI s n hs1
 rw [hs1] at h8
 have h10:TT.lim 11 [.i .u64 n,.l ((List.replicate (s+1) 0).map fK),.i .i64 ((s+1:Nat):Int),.i .i64 0]=some [.i .i64 0,.l ((iK (s+1) n).map fK)]:=by
  have:=abK (s+1) n [] hn (by simp;omega)
  simpa using this
 have hr:(List.replicate (s+1) 0).map fK=List.replicate (s+1) (GV.i .u8 0):=by rw [List.map_replicate];rfl
 rw [hr] at h10
 have hx:x < 256:=Sl _ _ x (List.mem_of_getElem? h1)
 have ha:=ae3 x hx
 have hget:((iK (s+1) n).map fK)[s]? = some (fK x):=by rw [List.getElem?_map,h1];rfl
 have hset:((iK (s+1) n).map fK).set s (GV.i .u8 ((x % 128:Nat):Int))=((iK (s+1) n).set s (x % 128)).map fK:=(List.map_set (f:=fK) (l:=iK (s+1) n) (i:=s) (a:=x % 128)).symm
 have hb:=Nu ((iK (s+1) n).set s (x % 128)) (fun y hy=>by
  rcases List.mem_or_eq_of_mem_set hy with hy | rfl
  ·exact Sl _ _ y hy
  ·omega)
 rw [h2] at hb
 have hlen:(((iK (s+1) n).set s (x % 128)).map fK).length=s+1:=by simp [Sj]
 have hlr:(List.replicate (s+1) (GV.i .u8 0)).length=s+1:=by simp
 have hl1:((iK (s+1) n).map fK).length=s+1:=by simp [Sj]
 generalize ((iK (s+1) n).set s (x % 128)).map fK=L3 at hset hb hlen
 generalize (iK (s+1) n).map fK=L2 at h10 hget hset hl1
 generalize hrep:List.replicate (s+1) (GV.i .u8 0)=L1 at h10 hlr
 refine aH rfl rfl ?_ rfl
 have hw:=wrap64 (n:=(s:Int)) (by omega) (by omega)
 have hcast:((s+1:Nat):Int)=(s:Int)+1:=by omega
 rw [hcast] at h8 h10
 have hc1:(0:Int)≤(s:Int)+1∧(s:Int)+1≤281474976710656∧(s:Int)+1≤1152921504606846976:=by omega
 have hc2:((s:Int)+1).toNat=s+1:=by omega
 have hlt:(s:Int) < (s:Int)+1:=by omega
 have hs2:(s:Int)+1 - 1=(s:Int):=by omega
 generalize hM:((x % 128:Nat):Int)=M at ha hset
 have hxx:fK x=.i .u8 x:=rfl
 have h48:s+1≤281474976710656:=by omega
 have hg2:L2[s]'(by omega)=fK x:=by have:=hget;rw [List.getElem?_eq_getElem (by omega)] at this;exact Option.some.inj this
 simp -implicitDefEqProofs [h8,hc1,hc2,hrep,hlr,h10,hl1,hs2,hw,hlt,hget,hg2,ha,hset,hxx,hlen,hb,h48,GV.fD]
theorem afo (a b:List UInt8):kM (a++b)=kM a++kM b:=by simp [kM]
@[simp] theorem asO (a:List UInt8):(kM a).length=a.length:=by simp [kM]
theorem Un (a:List UInt8):(kM a).all (GV.fD 1)=true:=by
 rw [List.all_eq_true]
 intro x hx
 obtain ⟨b,_,rfl⟩:=List.mem_map.1 hx
 rfl
theorem Ur:∀a:List UInt8,jJ (kM a)=some a
 | []=>rfl
 | x::a=>by
  have ih:=Ur a
  simp only [kM,List.map_cons,jJ] at ih ⊢
  have:=x.toNat_lt
  rw [if_pos (by omega),ih]
  simp
def fZ (x:dh):List UInt8:=dK x.1.length++x.1++dK x.2.length++x.2
def aY (d:List dh):List UInt8:=dK d.length++d.flatMap fZ
theorem ou {n:Nat} (h:n < 18446744073709551616):(dK n).length≤10:=Sm h
theorem ag8 (x:dh) (h1:x.1.length≤140737488351232) (h2:x.2.length≤140737488351232):TT.lim 13 [ent x]=some [.s (fZ x)]:=by
 have k1:=QN x.1.length (by omega)
 have k2:=QN x.2.length (by omega)
 have l1:=ou (n:=x.1.length) (by omega)
 have l2:=ou (n:=x.2.length) (by omega)
 have w1:=jI (n:=(x.1.length:Int)) (by omega) (by omega)
 have w2:=jI (n:=(x.2.length:Int)) (by omega) (by omega)
 refine aH rfl rfl ?_ rfl
 have c1:((dK x.1.length).length:Int)+(x.1.length:Int)≤9223372036854775807:=by omega
 have c2:((dK x.1.length).length:Int)+((x.1.length:Int)+((dK x.2.length).length:Int))≤9223372036854775807:=by omega
 have c3:((dK x.1.length).length:Int)+((x.1.length:Int)+(((dK x.2.length).length:Int)+(x.2.length:Int)))≤9223372036854775807:=by omega
 simp -implicitDefEqProofs [w1,w2,k1,k2,c1,c2,c3,fZ,Int.add_assoc]
theorem NY {x:dh} (h:ny x=true):(fZ x).length≤620:=by
 unfold ny at h
 simp only [decide_eq_true_iff] at h
 have l1:=ou (n:=x.1.length) (by omega)
 have l2:=ou (n:=x.2.length) (by omega)
 simp only [fZ,List.length_append]
 omega
theorem Oi:∀d:List dh,d.all ny=true→(d.flatMap fZ).length≤620 * d.length
 | [],_=>by simp
 | x::d,h=>by
  rw [List.all_cons,Bool.and_eq_true] at h
  have:=NY h.1
  have:=Oi d h.2
  simp only [List.flatMap_cons,List.length_append,List.length_cons]
  omega
theorem abL (d:List dh) (hf:d.all ny=true) (hl:d.length≤40):∀ (m i:Nat) (acc:List UInt8),i+m=d.length→acc.length≤10+620 * i→
 TT.lim 12 [.l (d.map ent),.i .i64 d.length,.i .i64 i,.l (kM acc)]=some [.i .i64 0,.l (kM (acc++(d.drop i).flatMap fZ))]
 | 0,i,acc,hi,ha=>by
  have h0:d.drop i=[]:=List.drop_eq_nil_of_le (by omega)
  refine au rfl rfl ?_
  have h:¬ ((i:Int) < d.length):=by omega
  simp -implicitDefEqProofs [h,h0]
 | m+1,i,acc,hi,ha=>by
  have hlt:i < d.length:=by omega
  have hx:=List.all_eq_true.1 hf d[i] (List.getElem_mem hlt)
  have hx1:=hx
  unfold ny at hx1
  simp only [decide_eq_true_iff] at hx1
  have hp:=ag8 d[i] (by omega) (by omega)
  have hpl:=NY hx
  have ih:TT.lim 12 [.l (d.map ent),.i .i64 d.length,.i .i64 ((i:Int)+1),.l (kM (acc++fZ d[i]))]=_:=abL d hf hl m (i+1) (acc++fZ d[i]) (by omega) (by simp;omega)
  rw [afo] at ih
  have hd:(d.drop i).flatMap fZ=fZ d[i]++(d.drop (i+1)).flatMap fZ:=by rw [List.drop_eq_getElem_cons hlt,List.flatMap_cons]
  rw [hd,← List.append_assoc]
  refine au rfl rfl ?_
  have h:((i:Int) < d.length):=by omega
  have hw:=wrap64 (n:=(i:Int)+1) (by omega) (by omega)
  have hok:=Un (fZ d[i])
  have hb:2 * (acc.length+(fZ d[i]).length)≤281474976710656∧acc.length+(fZ d[i]).length≤281474976710656:=by omega
  have he:GV.g [GV.s d[i].1,GV.s d[i].2]=ent d[i]:=rfl
  simp -implicitDefEqProofs [-List.all_eq_true,h,hlt,he,hp,hok,hb,hw,ih]
theorem IV (d:List dh) (hf:fM d=true):TT.lim 7 [.l (d.map ent)]=some [.s (aY d)]:=by
 unfold fM at hf
 rw [Bool.and_eq_true,decide_eq_true_iff] at hf
 have k:=QN d.length (by omega)
 have l1:=ou (n:=d.length) (by omega)
 have w1:=jI (n:=(d.length:Int)) (by omega) (by omega)
 have h11:TT.lim 12 [.l (d.map ent),.i .i64 d.length,.i .i64 0,.l (kM (dK d.length))]=_:=abL d hf.1 hf.2 d.length 0 (dK d.length) (by omega) (by omega)
 rw [List.drop_zero] at h11
 have hb:2 * (dK d.length).length≤281474976710656∧(dK d.length).length≤281474976710656:=by omega
 have hok:=Un (dK d.length)
 have hfl:=Oi d hf.1
 have hc:(dK d.length).length+(List.flatMap fZ d).length≤281474976710656:=by omega
 have hbg:=Ur (dK d.length++d.flatMap fZ)
 refine aH rfl rfl ?_ rfl
 unfold aY
 generalize d.flatMap fZ=F at *
 simp -implicitDefEqProofs [-List.all_eq_true,w1,k,hb,hok,h11,hc,hbg]
theorem ag4 {x y:dh} {a b:List UInt8} (h:fZ x++a=fZ y++b):x=y∧a=b:=by
 unfold fZ at h
 simp only [List.append_assoc] at h
 obtain ⟨h1,h2⟩:=Si _ _ _ _ h
 obtain ⟨h3,h4⟩:=List.append_inj h2 h1
 obtain ⟨h5,h6⟩:=Si _ _ _ _ h4
 obtain ⟨h7,h8⟩:=List.append_inj h6 h5
 exact ⟨Prod.ext h3 h7,h8⟩
theorem aaX:∀ {d e:List dh} {a b:List UInt8},d.length=e.length→d.flatMap fZ++a=e.flatMap fZ++b→d=e∧a=b
 | [],[],a,b,_,h=>⟨rfl,by simpa using h⟩
 | x::d,y::e,a,b,hl,h=>by
  simp only [List.flatMap_cons,List.append_assoc] at h
  obtain ⟨h1,h2⟩:=ag4 h
  obtain ⟨h3,h4⟩:=aaX (by simpa using hl) h2
  exact ⟨by rw [h1,h3],h4⟩
 | [],_::_,_,_,hl,_=>by simp at hl
 | _::_,[],_,_,hl,_=>by simp at hl
theorem ajo {d e:List dh} {a b:List UInt8} (h:aY d++a=aY e++b):d=e∧a=b:=by
 unfold aY at h
 simp only [List.append_assoc] at h
 obtain ⟨h1,h2⟩:=Si _ _ _ _ h
 exact aaX h1 h2
theorem ajn {d e:List dh} (h:aY d=aY e):d=e:=(ajo (a:=[]) (b:=[]) (by simpa using h)).1
def iw (s:List UInt8) (lo hi:Int):Int:=if (s.length:Int) < lo then 13 else if hi < (s.length:Int) then 13 else if Lib.validD s=true then 0 else 11
theorem ah3 (s:List UInt8) (h:s.length≤140737488351232):TT.lim 41 [.s s]=some [.b (Lib.validD s)]:=by
 have h21:TT.lim 42 [.s s]=some [.b (Lib.validD s)]:=Fq (Ds:=Ds) (k:=42) (f:=Dy) rfl (by simp only [Dy];rw [if_pos (by omega)])
 refine aH rfl rfl ?_ rfl
 simp -implicitDefEqProofs [h21]
theorem Ei (s:List UInt8) (lo hi:Int) (h:s.length≤140737488351232):TT.lim 40 [.s s,.i .i64 lo,.i .i64 hi]=some [.i .i64 (iw s lo hi)]:=by
 have h20:=ah3 s h
 refine aH rfl rfl ?_ rfl
 unfold iw
 by_cases h1:(s.length:Int) < lo
 ·simp -implicitDefEqProofs [h1]
 ·by_cases h2:hi < (s.length:Int)
  ·simp -implicitDefEqProofs [h1,h2]
  ·cases hv:Lib.validD s<;>rw [hv] at h20<;>simp [h1,h2,h20,hv]
def uZ (x:dh):Int:=if iw x.1 1 64≠0 then iw x.1 1 64 else iw x.2 0 256
theorem ag5 (x:dh) (h1:x.1.length≤140737488351232) (h2:x.2.length≤140737488351232):TT.lim 48 [ent x]=some [.i .i64 (uZ x)]:=by
 have k1:=Ei x.1 1 64 h1
 have k2:=Ei x.2 0 256 h2
 refine aH rfl rfl ?_ rfl
 unfold uZ
 by_cases h:iw x.1 1 64=0
 ·simp -implicitDefEqProofs [k1,h,k2]
 ·simp -implicitDefEqProofs [k1,h]
def jw:Option (List UInt8)→List dh→Int
 | _,[]=>0
 | p,x::xs=>if uZ x≠0 then uZ x else match p with
  | none=>jw (some x.1) xs
  | some k=>if x.1=k then 14 else if Op.bytesLess x.1 k=true then 7 else jw (some x.1) xs
def tagged (r:Int):List GV:=if r=0 then [.i .i64 1] else [.i .i64 0,.i .i64 r]
def prevK (d:List dh) (i:Nat):Option (List UInt8):=if i=0 then none else (d[i - 1]?).map (·.1)
theorem abM (d:List dh) (hd:jW d):∀m i:Nat,i+m=d.length→TT.lim 47 [.l (d.map ent),.i .i64 d.length,.i .i64 i]=some (tagged (jw (prevK d i) (d.drop i)))
 | 0,i,hi=>by
  have h0:d.drop i=[]:=List.drop_eq_nil_of_le (by omega)
  refine au rfl rfl ?_
  have h:¬ ((i:Int) < d.length):=by omega
  simp -implicitDefEqProofs [h,h0,jw,tagged]
 | m+1,i,hi=>by
  have hlt:i < d.length:=by omega
  have hx:=hd.2 d[i] (List.getElem_mem hlt)
  have hp:=ag5 d[i] hx.1 hx.2
  have ih:TT.lim 47 [.l (d.map ent),.i .i64 d.length,.i .i64 ((i:Int)+1)]=_:=abM d hd m (i+1) (by omega)
  have hpk:prevK d (i+1)=some d[i].1:=by unfold prevK;rw [if_neg (by omega)];simp [hlt]
  rw [hpk] at ih
  have hdr:d.drop i=d[i]::d.drop (i+1):=List.drop_eq_getElem_cons hlt
  rw [hdr]
  refine au rfl rfl ?_
  have h:((i:Int) < d.length):=by omega
  have hw:=wrap64 (n:=(i:Int)+1) (by omega) (by have:=hd.1;omega)
  have he:GV.g [GV.s d[i].1,GV.s d[i].2]=ent d[i]:=rfl
  by_cases h1:uZ d[i]=0
  rotate_left
  ·simp -implicitDefEqProofs [h,hlt,he,hp,h1,jw,tagged]
  by_cases h0:i=0
  ·subst h0
   simp only [Int.natCast_zero,Int.zero_add] at hw ih
   simp -implicitDefEqProofs [h,hlt,he,hp,h1,jw,prevK,hw]
   simpa using ih
  ·have hi1:i - 1 < d.length:=by omega
   have hpk2:prevK d i=some d[i - 1].1:=by unfold prevK;rw [if_neg h0];simp [hi1]
   have hw2:=wrap64 (n:=(i:Int) - 1) (by omega) (by have:=hd.1;omega)
   have hi0:¬ ((i:Int)=0):=by omega
   have hge:(0:Int)≤(i:Int) - 1:=by omega
   have ht:((i:Int) - 1).toNat=i - 1:=by omega
   have hnl:(1:Int)≤(i:Int):=by omega
   rw [hpk2]
   by_cases h2:d[i].1=d[i - 1].1
   ·have h2':(d[i].1=d[i - 1].1)=True:=eq_true h2
    clear h2
    simp -implicitDefEqProofs [h,hlt,he,hp,h1,hi0,h0,hw2,ht,hi1,h2',jw,tagged,hnl]
   ·cases h3:Op.bytesLess d[i].1 d[i - 1].1 with
    | true=>simp [h,hlt,he,hp,h1,hi0,h0,hw2,ht,hi1,h2,h3,jw,tagged,hnl]
    | false=>simp [h,hlt,he,hp,h1,hi0,h0,hw2,ht,hi1,h2,h3,jw,hw,ih,hnl]
def ng (d:List dh):Int:=if d.length=0 then 12 else if 16 < d.length then 13 else jw none d
theorem WI (d:List dh) (hd:jW d):TT.lim 46 [.l (d.map ent)]=some [.i .i64 (ng d)]:=by
 have h17:TT.lim 47 [.l (d.map ent),.i .i64 d.length,.i .i64 0]=_:=abM d hd d.length 0 (by omega)
 have hpk:prevK d 0=none:=rfl
 rw [hpk,List.drop_zero] at h17
 have w1:=jI (n:=(d.length:Int)) (by omega) (by have:=hd.1;omega)
 refine aH rfl rfl ?_ rfl
 unfold ng
 by_cases h0:d.length=0
 ·have h0':(d.length:Int)=0:=by omega
  have:d=[]:=List.eq_nil_of_length_eq_zero h0
  subst this
  simp -implicitDefEqProofs [IntKind.wrap,IntKind.signed]
 ·have h0':¬ (d.length:Int)=0:=by omega
  by_cases h1:16 < d.length
  ·have h1':(16:Int) < (d.length:Int):=by omega
   simp -implicitDefEqProofs [w1,h0,h1,h0',h1']
  ·have h1':¬ (16:Int) < (d.length:Int):=by omega
   by_cases h2:jw none d=0
   ·simp only [tagged,h2,if_true] at h17
    simp -implicitDefEqProofs [w1,h0,h1,h0',h1',h17,h2]
   ·simp only [tagged,h2,if_false] at h17
    simp -implicitDefEqProofs [w1,h0,h1,h0',h1',h17]
def kG (r:Row):Int:=if ng r.1≠0 then ng r.1 else if r.2=0 then 18 else 0
theorem afE (r:Row) (hd:jW r.1):TT.lim 52 [row r]=some [.i .i64 (kG r)]:=by
 have k:=WI r.1 hd
 refine aH rfl rfl ?_ rfl
 unfold kG
 by_cases h:ng r.1=0
 ·by_cases h2:r.2=0
  ·simp -implicitDefEqProofs [k,h,h2]
  ·simp -implicitDefEqProofs [k,h,h2]
 ·simp -implicitDefEqProofs [k,h]
def nC (long:Bool) (r:Row):Bool:=decide (r.1.length≤18)&&fM r.1&&(!long || decide ((aY r.1).length≤100))
theorem abO (l:List Row) (hl:Rows l):∀m i:Nat,i+m=l.length→TT.lim 6 [.l (l.map row),.i .i64 l.length,.i .i64 i]=some (if (l.drop i).all (nC (decide (40 < l.length)))=true then [.i .i64 1] else [.i .i64 0])
 | 0,i,hi=>by
  have h0:l.drop i=[]:=List.drop_eq_nil_of_le (by omega)
  refine au rfl rfl ?_
  have h:¬ ((i:Int) < l.length):=by omega
  simp -implicitDefEqProofs [h,h0]
 | m+1,i,hi=>by
  have hlt:i < l.length:=by omega
  have hr:=hl.2 l[i] (List.getElem_mem hlt)
  have ih:TT.lim 6 [.l (l.map row),.i .i64 l.length,.i .i64 ((i:Int)+1)]=_:=abO l hl m (i+1) (by omega)
  have hda:(l.drop i).all (nC (decide (40 < l.length)))=(nC (decide (40 < l.length)) l[i]&&(l.drop (i+1)).all (nC (decide (40 < l.length)))):=by rw [List.drop_eq_getElem_cons hlt,List.all_cons]
  rw [hda]
  refine au rfl rfl ?_
  have h:((i:Int) < l.length):=by omega
  have hw:=wrap64 (n:=(i:Int)+1) (by omega) (by have:=hl.1;omega)
  have h4:=aaR l[i].1 hr.1
  by_cases h1:18 < l[i].1.length
  ·have h1':(18:Int) < (l[i].1.length:Int):=by omega
   have:nC (decide (40 < l.length)) l[i]=false:=by unfold nC;simp;omega
   rw [this]
   simp -implicitDefEqProofs [h,hlt,h1']
  have h1':¬ (18:Int) < (l[i].1.length:Int):=by omega
  have h1d:l[i].1.length≤18:=by omega
  cases hf:fM l[i].1 with
  | false=>
   rw [hf] at h4
   have:nC (decide (40 < l.length)) l[i]=false:=by unfold nC;simp [hf]
   rw [this]
   simp -implicitDefEqProofs [h,hlt,h1',h4]
  | true=>
   rw [hf] at h4
   have k6:=IV l[i].1 hf
   by_cases h2:40 < l.length
   ·have h2':(40:Int) < (l.length:Int):=by omega
    by_cases h3:100 < (aY l[i].1).length
    ·have h3':(100:Int) < ((aY l[i].1).length:Int):=by omega
     have:nC (decide (40 < l.length)) l[i]=false:=by unfold nC;simp [h2];omega
     rw [this]
     simp -implicitDefEqProofs [h,hlt,h1',h4,h2',k6,h3']
    ·have h3':¬ (100:Int) < ((aY l[i].1).length:Int):=by omega
     have:nC (decide (40 < l.length)) l[i]=true:=by unfold nC;simp [h2,hf,h1d];omega
     rw [this,Bool.true_and]
     simp -implicitDefEqProofs [h,hlt,h1',h4,h2',k6,h3',hw,ih]
   ·have h2':¬ (40:Int) < (l.length:Int):=by omega
    have:nC (decide (40 < l.length)) l[i]=true:=by unfold nC;simp [h2,hf,h1d]
    rw [this,Bool.true_and]
    simp -implicitDefEqProofs [h,hlt,h1',h4,h2',hw,ih]
def xu (l:List Row):Bool:=l.all (nC (decide (40 < l.length)))&&decide (l.length≤300)
theorem ahJ (l:List Row) (hl:Rows l):TT.lim 5 [.l (l.map row)]=some [.b (xu l)]:=by
 refine aH rfl rfl ?_ rfl
 have h3:TT.lim 6 [.l (l.map row),.i .i64 l.length,.i .i64 0]=_:=abO l hl l.length 0 (by omega)
 rw [List.drop_zero] at h3
 unfold xu
 cases hc:l.all (nC (decide (40 < l.length))) with
 | false=>rw [hc] at h3;simp [h3]
 | true=>
  rw [hc] at h3;simp only [if_true] at h3
  have:(decide ((l.length:Int)≤300))=decide (l.length≤300):=by rw [Bool.eq_iff_iff];simp;omega
  simp -implicitDefEqProofs [h3,this]
theorem ahI {l:List Row} (h:xu l=true):∀r∈l,fM r.1=true:=by
 unfold xu at h
 rw [Bool.and_eq_true] at h
 intro r hr
 have:=List.all_eq_true.1 h.1 r hr
 unfold nC at this
 simp only [Bool.and_eq_true] at this
 exact this.1.2
theorem Eo (d:List dh) (h:d.length≤40):TT.lim 19 [.l (d.map ent)]=some [.l (d.map ent)]:=by
 refine Fq (Ds:=Ds) (k:=19) (f:=AO 32 2) rfl ?_
 have hall:(d.map ent).all (GV.fD 2)=true:=by
  rw [List.all_eq_true];intro x hx;obtain ⟨r,_,rfl⟩:=List.mem_map.1 hx;rfl
 simp only [AO]
 rw [if_pos ⟨by rw [List.length_map];omega,hall⟩]
abbrev K (r:Row):List UInt8:=aY r.1
/-- How many rows at the head have lesser keys. -/
def iD (k:List UInt8):List Row→Nat
 | []=>0
 | r::rs=>if Op.bytesLess (K r) k=true then iD k rs+1 else 0
theorem MN (k:List UInt8):∀t:List Row,iD k t≤t.length
 | []=>by simp [iD]
 | r::rs=>by
  unfold iD
  have:=MN k rs
  split<;>simp;omega
def SV:List Row→List Row→Bool
 | _,[]=>true
 | t,r::rs=>match t.drop (iD (K r) t) with
  | []=>false
  | s::t'=>decide (K s=K r)&&decide (r.2≤s.2)&&SV (s::t') rs
theorem H9 (x y:dh):jk [1,1] [.s x.1,.s x.2] [.s y.1,.s y.2]=some (decide (x=y)):=by
 simp only [jk,Option.map_some,Bool.and_true]
 congr 1
 rw [Bool.eq_iff_iff]
 simp -implicitDefEqProofs [Prod.ext_iff]
theorem abP (d e:List dh) (hl:d.length=e.length) (hb:d.length≤140737488351232):∀m i:Nat,i+m=d.length→
 TT.lim 168 [.l (d.map ent),.l (e.map ent),.i .i64 d.length,.i .i64 i]=some (if d.drop i=e.drop i then [.i .i64 1] else [.i .i64 0])
 | 0,i,hi=>by
  have h0:d.drop i=[]:=List.drop_eq_nil_of_le (by omega)
  have h1:e.drop i=[]:=List.drop_eq_nil_of_le (by omega)
  refine au rfl rfl ?_
  have h:¬ ((i:Int) < d.length):=by omega
  simp -implicitDefEqProofs [h,h0,h1]
 | m+1,i,hi=>by
  have hlt:i < d.length:=by omega
  have hlt2:i < e.length:=by omega
  have ih:TT.lim 168 [.l (d.map ent),.l (e.map ent),.i .i64 d.length,.i .i64 ((i:Int)+1)]=_:=abP d e hl hb m (i+1) (by omega)
  have hd:(d.drop i=e.drop i)↔(d[i]=e[i]∧d.drop (i+1)=e.drop (i+1)):=by
   rw [List.drop_eq_getElem_cons hlt,List.drop_eq_getElem_cons hlt2,List.cons.injEq]
  have hq:=H9 d[i] e[i]
  refine au rfl rfl ?_
  have h:((i:Int) < d.length):=by omega
  have hw:=wrap64 (n:=(i:Int)+1) (by omega) (by omega)
  by_cases h1:d[i]=e[i]
  ·have h2:(d.drop i=e.drop i)↔(d.drop (i+1)=e.drop (i+1)):=by rw [hd];simp [h1]
   have hq':jk [1,1] [.s d[i].1,.s d[i].2] [.s e[i].1,.s e[i].2]=some true:=by rw [hq];simp [h1]
   simp only [h2]
   simp -implicitDefEqProofs [h,hlt,hlt2,hq',hw,ih]
  ·have h2:¬ (d.drop i=e.drop i):=by rw [hd];simp [h1]
   have hq':jk [1,1] [.s d[i].1,.s d[i].2] [.s e[i].1,.s e[i].2]=some false:=by rw [hq];simp [h1]
   rw [if_neg h2]
   simp -implicitDefEqProofs [h,hlt,hlt2,hq']
theorem ahb (d e:List dh) (hb:d.length≤140737488351232) (hb2:e.length≤140737488351232):TT.lim 167 [.l (d.map ent),.l (e.map ent)]=some [.b (decide (d=e))]:=by
 refine aH rfl rfl ?_ rfl
 by_cases hl:d.length=e.length
 ·have hl':(d.length:Int)=(e.length:Int):=by omega
  have h32:TT.lim 168 [.l (d.map ent),.l (e.map ent),.i .i64 d.length,.i .i64 0]=_:=abP d e hl hb d.length 0 (by omega)
  rw [List.drop_zero,List.drop_zero] at h32
  by_cases h:d=e
  ·rw [if_pos h] at h32
   have h':(d=e)=True:=eq_true h
   clear h
   rw [hl'] at h32
   simp -implicitDefEqProofs [hl',h32,h']
  ·rw [if_neg h] at h32
   rw [hl'] at h32
   simp -implicitDefEqProofs [hl',h32,h]
 ·have hl':¬ (d.length:Int)=(e.length:Int):=by omega
  have h:¬ d=e:=fun h=>hl (by rw [h])
  simp -implicitDefEqProofs [hl',hl,h]
theorem amD (r s:Row) (hb:r.1.length≤140737488351232) (hb2:s.1.length≤140737488351232):TT.lim 166 [row r,row s]=some [.b (decide (r=s))]:=by
 have k:=ahb r.1 s.1 hb hb2
 refine aH rfl rfl ?_ rfl
 by_cases h:r.2=s.2
 ·have:decide (r=s)=decide (r.1=s.1):=by rw [Bool.eq_iff_iff];simp [Prod.ext_iff,h]
  rw [this]
  simp -implicitDefEqProofs [h,k]
 ·have:decide (r=s)=false:=by rw [decide_eq_false_iff_not];intro e;exact h (by rw [e])
  rw [this]
  simp -implicitDefEqProofs [h]
theorem abN (a b:List Row) (hl:a.length=b.length) (hb:a.length≤140737488351232) (h1:∀r∈a,r.1.length≤140737488351232) (h2:∀r∈b,r.1.length≤140737488351232):∀m i:Nat,i+m=a.length→
 TT.lim 165 [.l (b.map row),.l (a.map row),.i .i64 a.length,.i .i64 i]=some (if a.drop i=b.drop i then [.i .i64 1] else [.i .i64 0])
 | 0,i,hi=>by
  have h0:a.drop i=[]:=List.drop_eq_nil_of_le (by omega)
  have h1:b.drop i=[]:=List.drop_eq_nil_of_le (by omega)
  refine au rfl rfl ?_
  have h:¬ ((i:Int) < a.length):=by omega
  simp -implicitDefEqProofs [h,h0,h1]
 | m+1,i,hi=>by
  have hlt:i < a.length:=by omega
  have hlt2:i < b.length:=by omega
  have ih:TT.lim 165 [.l (b.map row),.l (a.map row),.i .i64 a.length,.i .i64 ((i:Int)+1)]=_:=abN a b hl hb h1 h2 m (i+1) (by omega)
  have hd:(a.drop i=b.drop i)↔(a[i]=b[i]∧a.drop (i+1)=b.drop (i+1)):=by
   rw [List.drop_eq_getElem_cons hlt,List.drop_eq_getElem_cons hlt2,List.cons.injEq]
  have k:=amD a[i] b[i] (h1 _ (List.getElem_mem hlt)) (h2 _ (List.getElem_mem hlt2))
  have r1:GV.g [.l (a[i].1.map ent),.i .u64 a[i].2]=row a[i]:=rfl
  have r2:GV.g [.l (b[i].1.map ent),.i .u64 b[i].2]=row b[i]:=rfl
  refine au rfl rfl ?_
  have h:((i:Int) < a.length):=by omega
  have hw:=wrap64 (n:=(i:Int)+1) (by omega) (by omega)
  by_cases h3:a[i]=b[i]
  ·have h4:(a.drop i=b.drop i)↔(a.drop (i+1)=b.drop (i+1)):=by rw [hd];simp [h3]
   simp only [h4]
   have k':TT.lim 166 [row a[i],row b[i]]=some [.b true]:=by rw [k];simp [h3]
   simp -implicitDefEqProofs [h,hlt,hlt2,r1,r2,k',hw,ih]
  ·have h4:¬ (a.drop i=b.drop i):=by rw [hd];simp [h3]
   rw [if_neg h4]
   have k':TT.lim 166 [row a[i],row b[i]]=some [.b false]:=by rw [k];simp [h3]
   simp -implicitDefEqProofs [h,hlt,hlt2,r1,r2,k']
theorem ank (a b:List Row) (hb:a.length≤140737488351232) (hb2:b.length≤140737488351232) (h1:∀r∈a,r.1.length≤140737488351232) (h2:∀r∈b,r.1.length≤140737488351232):TT.lim 163 [.l (a.map row),.l (b.map row)]=some [.b (decide (a=b))]:=by
 have h28:TT.lim 164 [.l (a.map row),.l (b.map row)]=some [.b (decide (a=b))]:=by
  refine aH rfl rfl ?_ rfl
  by_cases hl:a.length=b.length
  ·have hl':(a.length:Int)=(b.length:Int):=by omega
   have Bq:TT.lim 165 [.l (b.map row),.l (a.map row),.i .i64 a.length,.i .i64 0]=_:=abN a b hl hb h1 h2 a.length 0 (by omega)
   rw [List.drop_zero,List.drop_zero] at Bq
   rw [hl'] at Bq
   by_cases h:a=b
   ·rw [if_pos h] at Bq
    have h':(a=b)=True:=eq_true h
    clear h
    simp -implicitDefEqProofs [hl',Bq,h']
   ·rw [if_neg h] at Bq
    simp -implicitDefEqProofs [hl',Bq,h]
  ·have hl':¬ (a.length:Int)=(b.length:Int):=by omega
   have h:¬ a=b:=fun h=>hl (by rw [h])
   simp -implicitDefEqProofs [hl',hl,h]
 refine aH rfl rfl ?_ rfl
 simp -implicitDefEqProofs [h28]
theorem qV (a b:List UInt8):Op.bytesLess a b=true↔a < b:=by rw [Nv];simp
theorem afj (a b:List UInt8):Op.bytesLess a b=false↔¬ a < b:=by rw [Nv];simp
/-- Rows whose keys rise. -/
def iY (l:List Row):Prop:=l.Pairwise fun a b=>K a < K b
theorem ade:∀ {a b:List Row},iY a→iY b→(∀r∈a,r∈b)→(∀r∈b,r∈a)→a=b
 | [],[],_,_,_,_=>rfl
 | [],b::_,_,_,_,h=>absurd (h b (by simp)) (by simp)
 | a::_,[],_,_,h,_=>absurd (h a (by simp)) (by simp)
 | x::a,y::b,ha,hb,h1,h2=>by
  have ha':=List.pairwise_cons.1 ha
  have hb':=List.pairwise_cons.1 hb
  have hxy:x=y:=by
   rcases List.mem_cons.1 (h1 x (by simp)) with e | hx
   ·exact e
   ·rcases List.mem_cons.1 (h2 y (by simp)) with e | hy
    ·exact e.symm
    ·exact absurd (List.lt_trans (hb'.1 x hx) (ha'.1 y hy)) (List.lt_irrefl _)
  subst hxy
  rw [ade ha'.2 hb'.2 (fun r hr=>?_) (fun r hr=>?_)]
  ·rcases List.mem_cons.1 (h1 r (by simp [hr])) with e | h
   ·subst e;exact absurd (ha'.1 _ hr) (List.lt_irrefl _)
   ·exact h
  ·rcases List.mem_cons.1 (h2 r (by simp [hr])) with e | h
   ·subst e;exact absurd (hb'.1 _ hr) (List.lt_irrefl _)
   ·exact h
theorem aha {cs:List GV} {r0:List GV} (h:bg.fE [.list true [.str,.str],.int .u64] cs):∃r:Row,(jW r.1∧0≤r.2∧r.2 < 18446744073709551616)∧GV.g cs=row r:=by
 obtain ⟨g,l,rfl,h1,h⟩:=eX h
 obtain ⟨n,l,rfl,h2,h⟩:=eX h
 obtain rfl:=BA h
 obtain ⟨n,rfl,n1,n2⟩:=mJ h2
 obtain ⟨xs,rfl,h3,h4⟩:=BD h1
 obtain ⟨d,hd,rfl⟩:∃d:List dh,(∀x∈d,x.1.length≤140737488351232∧x.2.length≤140737488351232)∧xs=d.map ent:=zi fun x hx=>by
  obtain ⟨k1,k2⟩:=h4 x hx
  cases x<;>simp [GV.scalar] at k2
  obtain ⟨a,l,e1,a1,k1⟩:=eX k1
  obtain ⟨b,l,rfl,b1,k1⟩:=eX k1
  obtain rfl:=BA k1
  obtain ⟨s,rfl,s1⟩:=xA a1
  obtain ⟨u,rfl,u1⟩:=xA b1
  simp only [Ny] at e1
  subst e1
  exact ⟨(s,u),⟨Nat.le_trans s1 (by decide),Nat.le_trans u1 (by decide)⟩,rfl⟩
 exact ⟨(d,n),⟨⟨by have:=Nat.le_trans h3 (by decide:reachBytes≤140737488351232);simpa using this,hd⟩,n1,n2⟩,rfl⟩
theorem amE {g:GV} (h:(bg.list true [.list true [.str,.str],.int .u64]).has g):∃l:List Row,Rows l∧g=.l (l.map row):=by
 obtain ⟨xs,rfl,h1,h2⟩:=BD h
 obtain ⟨l,hl,rfl⟩:∃l:List Row,(∀r∈l,jW r.1∧0≤r.2∧r.2 < 18446744073709551616)∧xs=l.map row:=zi fun x hx=>by
  obtain ⟨k1,k2⟩:=h2 x hx
  cases x<;>simp [GV.scalar] at k2
  obtain ⟨r,hr,e⟩:=aha (r0:=[]) k1
  exact ⟨r,hr,e⟩
 exact ⟨l,⟨by have:=Nat.le_trans h1 (by decide:reachBytes≤140737488351232);simpa using this,hl⟩,rfl⟩
def gW:Option (List UInt8)→List Row→Int
 | _,[]=>0
 | p,r::rs=>if kG r≠0 then kG r else match p with
  | none=>gW (some (K r)) rs
  | some k=>if K r=k then 14 else if Op.bytesLess (K r) k=true then 7 else gW (some (K r)) rs
theorem abQ (t:List Row) (ht:Rows t) (hf:∀r∈t,fM r.1=true):∀ (m i:Nat) (p:List UInt8),i+m=t.length→
 TT.lim 51 [.s p,.l (t.map row),.i .i64 t.length,.i .i64 i]=some (tagged (gW (if i=0 then none else some p) (t.drop i)))
 | 0,i,p,hi=>by
  have h0:t.drop i=[]:=List.drop_eq_nil_of_le (by omega)
  refine au rfl rfl ?_
  have h:¬ ((i:Int) < t.length):=by omega
  simp -implicitDefEqProofs [h,h0,gW,tagged]
 | m+1,i,p,hi=>by
  have hlt:i < t.length:=by omega
  have hr:=ht.2 t[i] (List.getElem_mem hlt)
  have k15:=afE t[i] hr.1
  have k6:=IV t[i].1 (hf _ (List.getElem_mem hlt))
  have hrow:GV.g [.l (t[i].1.map ent),.i .u64 t[i].2]=row t[i]:=rfl
  have ih:TT.lim 51 [.s (aY t[i].1),.l (t.map row),.i .i64 t.length,.i .i64 ((i:Int)+1)]=_:=abQ t ht hf m (i+1) (aY t[i].1) (by omega)
  rw [if_neg (by omega)] at ih
  rw [List.drop_eq_getElem_cons hlt]
  refine au rfl rfl ?_
  have h:((i:Int) < t.length):=by omega
  have hw:=wrap64 (n:=(i:Int)+1) (by omega) (by have:=ht.1;omega)
  by_cases h1:kG t[i]=0
  rotate_left
  ·simp -implicitDefEqProofs [-List.getElem_cons_drop,h,hlt,hrow,k15,h1,gW,tagged]
  by_cases h0:i=0
  ·subst h0
   simp only [Int.natCast_zero,Int.zero_add] at hw ih
   simp -implicitDefEqProofs [-List.getElem_cons_drop,h,hlt,hrow,k15,h1,k6,hw,gW]
   have hn:(0:Int) < (t.length:Int):=by omega
   simpa using ih
  ·have hi0:0 < i:=by omega
   by_cases h2:aY t[i].1=p
   ·have h2':(aY t[i].1=p)=True:=eq_true h2
    clear h2
    simp -implicitDefEqProofs [-List.getElem_cons_drop,h,hlt,hrow,k15,h1,k6,hi0,h0,h2',gW,tagged]
   ·cases h3:Op.bytesLess (aY t[i].1) p with
    | true=>simp [-List.getElem_cons_drop,h,hlt,hrow,k15,h1,k6,hi0,h0,h2,h3,gW,tagged]
    | false=>simp [-List.getElem_cons_drop,h,hlt,hrow,k15,h1,k6,hi0,h0,h2,h3,hw,ih,gW]
def jK (t:List Row):Int:=if 256 < t.length then 13 else gW none t
theorem NC (t:List Row) (ht:Rows t) (hf:∀r∈t,fM r.1=true):TT.lim 50 [.l (t.map row)]=some [.i .i64 (jK t)]:=by
 have h38:TT.lim 51 [.s [],.l (t.map row),.i .i64 t.length,.i .i64 0]=_:=abQ t ht hf t.length 0 [] (by omega)
 rw [if_pos rfl,List.drop_zero] at h38
 refine aH rfl rfl ?_ rfl
 unfold jK
 by_cases h1:256 < t.length
 ·have h1':(256:Int) < (t.length:Int):=by omega
  simp -implicitDefEqProofs [h1,h1']
 ·have h1':¬ (256:Int) < (t.length:Int):=by omega
  by_cases h2:gW none t=0
  ·simp only [tagged,h2,if_true] at h38
   simp -implicitDefEqProofs [h1,h1',h38,h2]
  ·simp only [tagged,h2,if_false] at h38
   simp -implicitDefEqProofs [h1,h1',h38,h2]
theorem WQ:∀ {t:List Row} (p:Option (List UInt8)),iY t→(∀r∈t,kG r=0)→(∀k,p=some k→∀r∈t,k < K r)→gW p t=0
 | [],p,_,_,_=>by cases p<;>rfl
 | r::t,p,ht,hc,hp=>by
  have ht':=List.pairwise_cons.1 ht
  have ih:=WQ (t:=t) (some (K r)) ht'.2 (fun x hx=>hc x (by simp [hx])) (fun k hk x hx=>by cases hk;exact ht'.1 x hx)
  unfold gW
  rw [if_neg (by simp [hc r (by simp)])]
  cases p with
  | none=>exact ih
  | some k=>
   have hk:=hp k rfl r (by simp)
   have h1:¬ K r=k:=fun e=>by rw [e] at hk;exact List.lt_irrefl _ hk
   have h2:¬ Op.bytesLess (K r) k=true:=fun e=>List.lt_irrefl _ (List.lt_trans hk ((qV _ _).1 e))
   simp only
   rw [if_neg h1,if_neg h2]
   exact ih
theorem adf {l:List Row} (h:iY l):(l.map K).Nodup:=by
 unfold List.Nodup
 rw [List.pairwise_map]
 refine h.imp fun {a b} hab e=>?_
 rw [e] at hab
 exact List.lt_irrefl _ hab
theorem Rows.perm {l m:List Row} (h:l.Perm m) (hl:Rows l):Rows m:=⟨by rw [← h.length_eq];exact hl.1,fun r hr=>hl.2 r (h.mem_iff.2 hr)⟩
def cmpK (a b:List UInt8):Int:=if a < b then -1 else if b < a then 1 else 0
theorem XD:∀a b:List UInt8,Lib.compareBytes a b=cmpK a b
 | [],[]=>by simp [Lib.compareBytes,cmpK]
 | [],_::_=>by simp [Lib.compareBytes,cmpK]
 | _::_,[]=>by simp [Lib.compareBytes,cmpK]
 | x::a,y::b=>by
  unfold Lib.compareBytes
  rw [XD a b]
  unfold cmpK
  simp only [List.cons_lt_cons_iff]
  by_cases h1:x < y
  ·simp -implicitDefEqProofs [h1]
  ·by_cases h2:y < x
   ·have hne:¬ x=y:=fun e=>by subst e;exact UInt8.lt_irrefl _ h2
    simp -implicitDefEqProofs [h1,h2,hne]
   ·have he:x=y:=UInt8.le_antisymm (UInt8.not_lt.1 h2) (UInt8.not_lt.1 h1)
    subst he
    simp -implicitDefEqProofs [UInt8.lt_irrefl]
theorem afU (a b:List UInt8):NI a b=cmpK a b:=(Lib.cmp_eq _ _).trans (XD a b)
theorem afT (a b:List UInt8):TT.lim 80 [.s a,.s b]=some [.i .i64 (cmpK a b)]:=Fq rfl (by rw [← afU];rfl)
theorem afS (d e:List dh) (hd:fM d=true) (he:fM e=true):TT.lim 79 [.l (d.map ent),.l (e.map ent)]=some [.i .i64 (cmpK (aY d) (aY e))]:=by
 have k1:=IV d hd
 have k2:=IV e he
 have k3:=afT (aY d) (aY e)
 refine aH rfl rfl ?_ rfl
 simp -implicitDefEqProofs [k1,k2,k3]
theorem aeV (x y:Int) (h1:0≤x) (h2:0≤y):TT.lim 81 [.i .u64 x,.i .u64 y,.i .u64 0]=some [.i .u64 ((x+y) % 18446744073709551616),.i .u64 ((x+y) / 18446744073709551616)]:=Fq rfl (by
 unfold DL
 simp only
 rw [if_pos ⟨h1,h2,by omega,by omega⟩]
 simp only [Int.add_zero])
def val:List Row→List UInt8→Int
 | [],_=>0
 | r::rs,k=>if K r=k then r.2 else val rs k
def Pos (t:List Row):Prop:=∀r∈t,0 < r.2∧r.2 < 18446744073709551616
theorem Gg:∀ {t:List Row} {k:List UInt8},(∀r∈t,K r≠k)→val t k=0
 | [],_,_=>rfl
 | r::t,k,h=>by unfold val;rw [if_neg (h r (by simp))];exact Gg fun x hx=>h x (by simp [hx])
theorem Dx:∀ {t:List Row},iY t→∀r∈t,val t (K r)=r.2
 | [],_,r,h=>by simp at h
 | x::t,ht,r,h=>by
  have ht':=List.pairwise_cons.1 ht
  unfold val
  rcases List.mem_cons.1 h with rfl | h
  ·rw [if_pos rfl]
  ·rw [if_neg fun e=>by have:=ht'.1 r h;rw [e] at this;exact List.lt_irrefl _ this]
   exact Dx ht'.2 r h
theorem Gf:∀ (t:List Row) (k:List UInt8),(∃r∈t,K r=k∧val t k=r.2)∨((∀r∈t,K r≠k)∧val t k=0)
 | [],k=>.inr ⟨by simp,rfl⟩
 | x::t,k=>by
  unfold val
  by_cases h:K x=k
  ·exact .inl ⟨x,by simp,h,by rw [if_pos h]⟩
  ·rw [if_neg h]
   rcases Gf t k with ⟨r,h1,h2,h3⟩ | ⟨h1,h2⟩
   ·exact .inl ⟨r,by simp [h1],h2,h3⟩
   ·refine .inr ⟨fun r hr=>?_,h2⟩
    rcases List.mem_cons.1 hr with rfl | hr
    ·exact h
    ·exact h1 r hr
theorem LW {t:List Row} (hp:Pos t) (k:List UInt8):0≤val t k∧val t k < 18446744073709551616:=by
 rcases Gf t k with ⟨r,h1,h2,h3⟩ | ⟨h1,h2⟩
 ·have:=hp r h1;omega
 ·omega
theorem aqE {t:List Row} (hp:Pos t) {k:List UInt8} (h:0 < val t k):∃r∈t,K r=k∧val t k=r.2:=by
 rcases Gf t k with h1 | ⟨h1,h2⟩
 ·exact h1
 ·omega
theorem aqD {a b:List Row} (ha:iY a) (hb:iY b) (pa:Pos a) (pb:Pos b) (h:∀k,val a k=val b k):a=b:=by
 have key:∀ {a b:List Row},iY a→iY b→Pos a→Pos b→(∀k,val a k=val b k)→∀r∈a,r∈b:=by
  intro a b ha hb pa pb h r hr
  have h1:=Dx ha r hr
  have h2:=(pa r hr).1
  obtain ⟨s,hs,h3,h4⟩:=aqE pb (k:=K r) (by rw [← h];omega)
  have:s=r:=Prod.ext (ajn h3) (by rw [← h4,← h,h1])
  rw [← this];exact hs
 exact ade ha hb (key ha hb pa pb h) (key hb ha pb pa fun k=>(h k).symm)
def dP:List Row→List Row→Option (List Row)
 | [],b=>some b
 | x::a,[]=>some (x::a)
 | x::a,y::b=>
  if K x < K y then (dP a (y::b)).map (x::·)
  else if K y < K x then (dP (x::a) b).map (y::·)
  else if x.2+y.2 < 18446744073709551616 then (dP a b).map ((x.1,x.2+y.2)::·) else none
termination_by a b=>a.length+b.length
def Keys (a b m:List Row):Prop:=∀r∈m,∃s,(s∈a∨s∈b)∧s.1=r.1
theorem PI:∀ (a b:List Row) {m:List Row},iY a→iY b→Pos a→Pos b→dP a b=some m→iY m∧(∀k,val m k=val a k+val b k)∧Keys a b m∧Pos m:=by
 intro a b
 induction a,b using dP.induct with
 | case1 b=>
  intro m ha hb pa pb h
  rw [dP] at h;cases h
  exact ⟨hb,fun k=>by simp [val],fun r hr=>⟨r,.inr hr,rfl⟩,pb⟩
 | case2 x a=>
  intro m ha hb pa pb h
  rw [dP] at h;cases h
  exact ⟨ha,fun k=>by simp [val],fun r hr=>⟨r,.inl hr,rfl⟩,pa⟩
 | case3 x a y b hlt ih=>
  intro m ha hb pa pb h
  rw [dP,if_pos hlt] at h
  obtain ⟨m',h',rfl⟩:=Option.map_eq_some_iff.1 h
  have ha':=List.pairwise_cons.1 ha
  have hb':=List.pairwise_cons.1 hb
  obtain ⟨h1,h2,h3,h4⟩:=ih ha'.2 hb (fun r hr=>pa r (by simp [hr])) pb h'
  have hx:∀s,s∈a∨s∈y::b→K x < K s:=by
   rintro s (hs | hs)
   ·exact ha'.1 s hs
   ·rcases List.mem_cons.1 hs with rfl | hs
    ·exact hlt
    ·exact List.lt_trans hlt (hb'.1 s hs)
  refine ⟨List.Pairwise.cons (fun r hr=>?_) h1,fun k=>?_,fun r hr=>?_,fun r hr=>?_⟩
  ·obtain ⟨s,hs,e⟩:=h3 r hr
   have:=hx s hs
   show K x < aY r.1
   rw [← e];exact this
  ·show (if K x=k then x.2 else val m' k)=(if K x=k then x.2 else val a k)+val (y::b) k
   split
   ·next e=>
    rw [Gg (t:=y::b) fun r hr e2=>by have:=hx r (.inr hr);rw [e,e2] at this;exact List.lt_irrefl _ this]
    omega
   ·exact h2 k
  ·rcases List.mem_cons.1 hr with rfl | hr
   ·exact ⟨r,.inl (by simp),rfl⟩
   ·obtain ⟨s,hs,e⟩:=h3 r hr
    exact ⟨s,hs.imp (fun h=>by simp [h]) id,e⟩
  ·rcases List.mem_cons.1 hr with rfl | hr
   ·exact pa r (by simp)
   ·exact h4 r hr
 | case4 x a y b hlt hgt ih=>
  intro m ha hb pa pb h
  rw [dP,if_neg hlt,if_pos hgt] at h
  obtain ⟨m',h',rfl⟩:=Option.map_eq_some_iff.1 h
  have ha':=List.pairwise_cons.1 ha
  have hb':=List.pairwise_cons.1 hb
  obtain ⟨h1,h2,h3,h4⟩:=ih ha hb'.2 pa (fun r hr=>pb r (by simp [hr])) h'
  have hx:∀s,s∈x::a∨s∈b→K y < K s:=by
   rintro s (hs | hs)
   ·rcases List.mem_cons.1 hs with rfl | hs
    ·exact hgt
    ·exact List.lt_trans hgt (ha'.1 s hs)
   ·exact hb'.1 s hs
  refine ⟨List.Pairwise.cons (fun r hr=>?_) h1,fun k=>?_,fun r hr=>?_,fun r hr=>?_⟩
  ·obtain ⟨s,hs,e⟩:=h3 r hr
   have:=hx s hs
   show K y < aY r.1
   rw [← e];exact this
  ·show (if K y=k then y.2 else val m' k)=val (x::a) k+(if K y=k then y.2 else val b k)
   split
   ·next e=>
    rw [Gg (t:=x::a) fun r hr e2=>by have:=hx r (.inl hr);rw [e,e2] at this;exact List.lt_irrefl _ this]
    omega
   ·exact h2 k
  ·rcases List.mem_cons.1 hr with rfl | hr
   ·exact ⟨r,.inr (by simp),rfl⟩
   ·obtain ⟨s,hs,e⟩:=h3 r hr
    exact ⟨s,hs.imp id (fun h=>by simp [h]),e⟩
  ·rcases List.mem_cons.1 hr with rfl | hr
   ·exact pb r (by simp)
   ·exact h4 r hr
 | case5 x a y b hlt hgt hs ih=>
  intro m ha hb pa pb h
  rw [dP,if_neg hlt,if_neg hgt,if_pos hs] at h
  obtain ⟨m',h',rfl⟩:=Option.map_eq_some_iff.1 h
  have ha':=List.pairwise_cons.1 ha
  have hb':=List.pairwise_cons.1 hb
  have he:K x=K y:=List.le_antisymm (List.not_lt.1 hgt) (List.not_lt.1 hlt)
  obtain ⟨h1,h2,h3,h4⟩:=ih ha'.2 hb'.2 (fun r hr=>pa r (by simp [hr])) (fun r hr=>pb r (by simp [hr])) h'
  have hx:∀s,s∈a∨s∈b→K x < K s:=by
   rintro s (hs | hs)
   ·exact ha'.1 s hs
   ·rw [he];exact hb'.1 s hs
  refine ⟨List.Pairwise.cons (fun r hr=>?_) h1,fun k=>?_,fun r hr=>?_,fun r hr=>?_⟩
  ·obtain ⟨s,hs,e⟩:=h3 r hr
   have:=hx s hs
   show aY x.1 < aY r.1
   rw [← e];exact this
  ·show (if K x=k then x.2+y.2 else val m' k)=(if K x=k then x.2 else val a k)+(if K y=k then y.2 else val b k)
   rw [he]
   split
   ·rfl
   ·exact h2 k
  ·rcases List.mem_cons.1 hr with rfl | hr
   ·exact ⟨x,.inl (by simp),rfl⟩
   ·obtain ⟨s,hs,e⟩:=h3 r hr
    exact ⟨s,hs.imp (fun h=>by simp [h]) (fun h=>by simp [h]),e⟩
  ·rcases List.mem_cons.1 hr with rfl | hr
   ·have q1:=pa x (by simp);have q2:=pb y (by simp)
    exact ⟨by simp only;omega,hs⟩
   ·exact h4 r hr
 | case6 x a y b hlt hgt hs=>
  intro m ha hb pa pb h
  rw [dP,if_neg hlt,if_neg hgt,if_neg hs] at h;cases h
theorem Ae {t:List Row} {k:List UInt8} (h:∀r∈t,k < K r):val t k=0:=Gg fun r hr e=>by have:=h r hr;rw [e] at this;exact List.lt_irrefl _ this
theorem akp:∀ (a b:List Row),iY a→iY b→dP a b=none→∃k,18446744073709551616≤val a k+val b k:=by
 intro a b
 induction a,b using dP.induct with
 | case1 b=>intro ha hb h;rw [dP] at h;cases h
 | case2 x a=>intro ha hb h;rw [dP] at h;cases h
 | case3 x a y b hlt ih=>
  intro ha hb h
  rw [dP,if_pos hlt] at h
  have ha':=List.pairwise_cons.1 ha
  have hb':=List.pairwise_cons.1 hb
  obtain ⟨k,hk⟩:=ih ha'.2 hb (Option.map_eq_none_iff.1 h)
  refine ⟨k, ?_⟩
  by_cases e:K x=k
  ·exfalso
   subst e
   rw [Ae ha'.1,Ae (t:=y::b) fun r hr=>?_] at hk
   ·omega
   ·rcases List.mem_cons.1 hr with rfl | hr
    ·exact hlt
    ·exact List.lt_trans hlt (hb'.1 r hr)
  ·show _≤(if K x=k then x.2 else val a k)+_
   rw [if_neg e];exact hk
 | case4 x a y b hlt hgt ih=>
  intro ha hb h
  rw [dP,if_neg hlt,if_pos hgt] at h
  have ha':=List.pairwise_cons.1 ha
  have hb':=List.pairwise_cons.1 hb
  obtain ⟨k,hk⟩:=ih ha hb'.2 (Option.map_eq_none_iff.1 h)
  refine ⟨k, ?_⟩
  by_cases e:K y=k
  ·exfalso
   subst e
   rw [Ae hb'.1,Ae (t:=x::a) fun r hr=>?_] at hk
   ·omega
   ·rcases List.mem_cons.1 hr with rfl | hr
    ·exact hgt
    ·exact List.lt_trans hgt (ha'.1 r hr)
  ·show _≤_+(if K y=k then y.2 else val b k)
   rw [if_neg e];exact hk
 | case5 x a y b hlt hgt hs ih=>
  intro ha hb h
  rw [dP,if_neg hlt,if_neg hgt,if_pos hs] at h
  have ha':=List.pairwise_cons.1 ha
  have hb':=List.pairwise_cons.1 hb
  have he:K x=K y:=List.le_antisymm (List.not_lt.1 hgt) (List.not_lt.1 hlt)
  obtain ⟨k,hk⟩:=ih ha'.2 hb'.2 (Option.map_eq_none_iff.1 h)
  refine ⟨k, ?_⟩
  by_cases e:K x=k
  ·exfalso
   subst e
   rw [Ae ha'.1,Ae (t:=b) fun r hr=>by rw [he];exact hb'.1 r hr] at hk
   omega
  ·show _≤(if K x=k then x.2 else val a k)+(if K y=k then y.2 else val b k)
   rw [if_neg e,← he,if_neg e];exact hk
 | case6 x a y b hlt hgt hs=>
  intro ha hb h
  have he:K x=K y:=List.le_antisymm (List.not_lt.1 hgt) (List.not_lt.1 hlt)
  refine ⟨K x, ?_⟩
  show _≤(if K x=K x then x.2 else val a _)+(if K y=K x then y.2 else val b _)
  rw [if_pos rfl,if_pos he.symm];omega
theorem I4 (x:GV) (l:List Row) (n:Int) (hx:x.cells.length=2) (hn:n=l.length+1):EX 2 (some (.l (x::l.map row))) (some (.i .i64 1)) (some (.i .i64 n))=some (.l (l.map row)):=by
 subst hn
 rw [rV,if_pos ⟨by omega,by omega,by simp,by rw [List.all_cons];simp [hx,QZ]⟩]
 ·congr 2
  have h1:((l.length:Int)+1).toNat=l.length+1:=by omega
  rw [h1,List.take_of_length_le (by simp)];rfl
def kV (acc:List Row):Option (List Row)→List GV
 | some m=>[.i .i64 1,.l ((acc++m).map row)]
 | none=>[.i .i64 0]
theorem qy {d:List dh} (h:fM d=true):d.length≤40:=by
 unfold fM at h;simp at h;omega
theorem afX {a b:List UInt8} (h:a < b):cmpK a b = -1:=by unfold cmpK;rw [if_pos h]
theorem afW {a b:List UInt8} (h1:¬ a < b) (h:b < a):cmpK a b=1:=by unfold cmpK;rw [if_neg h1,if_pos h]
theorem afV {a b:List UInt8} (h1:¬ a < b) (h:¬ b < a):cmpK a b=0:=by unfold cmpK;rw [if_neg h1,if_neg h]
def iC (t:List Row):Prop:=∀r∈t,fM r.1=true
set_option maxHeartbeats 4000000 in
theorem ajI:∀ (n:Nat) (a b acc:List Row),a.length+b.length≤n→acc.length+a.length+b.length≤1000→iC a→iC b→(∀r∈a,0≤r.2∧r.2 < 18446744073709551616)→(∀r∈b,0≤r.2∧r.2 < 18446744073709551616)→
 TT.lim 78 [.l (a.map row),.l (b.map row),.l (acc.map row)]=some (kV acc (dP a b)):=by
 intro n
 induction n with
 | zero=>
  intro a b acc hn hb fa fb va vb
  obtain rfl:a=[]:=List.eq_nil_of_length_eq_zero (by omega)
  obtain rfl:b=[]:=List.eq_nil_of_length_eq_zero (by omega)
  rw [dP]
  refine au rfl rfl ?_
  simp -implicitDefEqProofs [kV]
 | succ n ih=>
  intro a b acc hn hb fa fb va vb
  cases a with
  | nil=>
   cases b with
   | nil=>
    rw [dP]
    refine au rfl rfl ?_
    simp -implicitDefEqProofs [kV]
   | cons y b=>
    simp only [List.length_nil,List.length_cons,Nat.zero_add] at hn hb
    have ih':=ih [] b (acc++[y]) (by simp;omega) (by simp;omega) fa (fun r hr=>fb r (by simp [hr])) va (fun r hr=>vb r (by simp [hr]))
    rw [dP] at ih' ⊢
    simp only [kV,List.append_assoc,List.singleton_append,List.map_append,List.map_cons,List.map_nil] at ih' ⊢
    have kc:=Eo y.1 (qy (fb y (by simp)))
    have hrow:GV.g [.l (y.1.map ent),.i .u64 y.2]=row y:=rfl
    have hok:(row y).fD 2=true:=rfl
    have hl:=I4 (row y) b ((b.length:Int)+1) rfl rfl
    have hbb:2 * (acc.length+1) * 32≤281474976710656∧acc.length+1≤281474976710656:=by omega
    have hp:(0:Int) < (b.length:Int)+1:=by omega
    have hp2:¬ ((b.length:Int)+1=0):=by omega
    refine au rfl rfl ?_
    simp -implicitDefEqProofs [-rV,kc,hrow,hok,hl,hbb,hp,hp2,ih']
  | cons x a=>
   cases b with
   | nil=>
    simp only [List.length_nil,List.length_cons,Nat.add_zero] at hn hb
    have ih':=ih a [] (acc++[x]) (by simp;omega) (by simp;omega) (fun r hr=>fa r (by simp [hr])) fb (fun r hr=>va r (by simp [hr])) vb
    have hm:dP a []=some a:=by cases a<;>rw [dP]
    rw [hm] at ih'
    rw [dP]
    simp only [kV,List.append_assoc,List.singleton_append,List.map_append,List.map_cons,List.map_nil] at ih' ⊢
    have kc:=Eo x.1 (qy (fa x (by simp)))
    have hrow:GV.g [.l (x.1.map ent),.i .u64 x.2]=row x:=rfl
    have hok:(row x).fD 2=true:=rfl
    have hl:=I4 (row x) a ((a.length:Int)+1) rfl rfl
    have hbb:2 * (acc.length+1) * 32≤281474976710656∧acc.length+1≤281474976710656:=by omega
    have hp:(0:Int) < (a.length:Int)+1:=by omega
    have hp2:¬ ((a.length:Int)+1=0):=by omega
    refine au rfl rfl ?_
    simp -implicitDefEqProofs [-rV,kc,hrow,hok,hl,hbb,hp,hp2,ih']
   | cons y b=>
    simp only [List.length_cons] at hn hb
    have fx:=fa x (by simp)
    have fy:=fb y (by simp)
    have IQ:=Eo x.1 (qy fx)
    have IU:=Eo y.1 (qy fy)
    have hrx:GV.g [.l (x.1.map ent),.i .u64 x.2]=row x:=rfl
    have IG:GV.g [.l (y.1.map ent),.i .u64 y.2]=row y:=rfl
    have hrs:GV.g [.l (x.1.map ent),.i .u64 (x.2+y.2)]=row (x.1,x.2+y.2):=rfl
    have hok:∀r:Row,(row r).fD 2=true:=fun r=>rfl
    have hlx:=I4 (row x) a ((a.length:Int)+1) rfl rfl
    have IC:=I4 (row y) b ((b.length:Int)+1) rfl rfl
    have hbb:2 * (acc.length+1) * 32≤281474976710656∧acc.length+1≤281474976710656:=by omega
    have hp:(0:Int) < (a.length:Int)+1:=by omega
    have hp2:¬ ((a.length:Int)+1=0):=by omega
    have hq:(0:Int) < (b.length:Int)+1:=by omega
    have hq2:¬ ((b.length:Int)+1=0):=by omega
    have zf:=afS x.1 y.1 fx fy
    have IK:=aeV x.2 y.2 (va x (by simp)).1 (vb y (by simp)).1
    have vx:=va x (by simp)
    have vy:=vb y (by simp)
    by_cases h1:K x < K y
    ·have ih':=ih a (y::b) (acc++[x]) (by simp;omega) (by simp;omega) (fun r hr=>fa r (by simp [hr])) fb (fun r hr=>va r (by simp [hr])) vb
     rw [dP,if_pos h1]
     rw [afX h1] at zf
     have e:kV (acc++[x]) (dP a (y::b))=kV acc ((dP a (y::b)).map (x::·)):=by cases dP a (y::b)<;>simp [kV]
     rw [e] at ih'
     generalize kV acc ((dP a (y::b)).map (x::·))=out at ih' ⊢
     simp only [List.map_append,List.map_cons,List.map_nil] at ih'
     refine au rfl rfl ?_
     simp -implicitDefEqProofs [-rV,IQ,IU,hrx,IG,hok,hlx,IC,hbb,hp,hp2,hq,hq2,zf,ih']
    by_cases h2:K y < K x
    ·have ih':=ih (x::a) b (acc++[y]) (by simp;omega) (by simp;omega) fa (fun r hr=>fb r (by simp [hr])) va (fun r hr=>vb r (by simp [hr]))
     rw [dP,if_neg h1,if_pos h2]
     rw [afW h1 h2] at zf
     have e:kV (acc++[y]) (dP (x::a) b)=kV acc ((dP (x::a) b).map (y::·)):=by cases dP (x::a) b<;>simp [kV]
     rw [e] at ih'
     generalize kV acc ((dP (x::a) b).map (y::·))=out at ih' ⊢
     simp only [List.map_append,List.map_cons,List.map_nil] at ih'
     refine au rfl rfl ?_
     simp -implicitDefEqProofs [-rV,IQ,IU,hrx,IG,hok,hlx,IC,hbb,hp,hp2,hq,hq2,zf,ih']
    rw [dP,if_neg h1,if_neg h2]
    rw [afV h1 h2] at zf
    by_cases h3:x.2+y.2 < 18446744073709551616
    ·have ih':=ih a b (acc++[(x.1,x.2+y.2)]) (by omega) (by simp;omega) (fun r hr=>fa r (by simp [hr])) (fun r hr=>fb r (by simp [hr])) (fun r hr=>va r (by simp [hr])) (fun r hr=>vb r (by simp [hr]))
     rw [if_pos h3]
     have e:kV (acc++[(x.1,x.2+y.2)]) (dP a b)=kV acc ((dP a b).map ((x.1,x.2+y.2)::·)):=by cases dP a b<;>simp [kV]
     rw [e] at ih'
     generalize kV acc ((dP a b).map ((x.1,x.2+y.2)::·))=out at ih' ⊢
     simp only [List.map_append,List.map_cons,List.map_nil] at ih'
     rw [show (x.2+y.2) % 18446744073709551616=x.2+y.2 by omega,show (x.2+y.2) / 18446744073709551616=0 by omega] at IK
     refine au rfl rfl ?_
     simp -implicitDefEqProofs [-rV,IQ,IU,hrx,IG,hrs,hok,hlx,IC,hbb,hp,hp2,hq,hq2,zf,IK,ih']
    ·rw [if_neg h3]
     rw [show (x.2+y.2) / 18446744073709551616=1 by omega] at IK
     refine au rfl rfl ?_
     simp -implicitDefEqProofs [-rV,IQ,IU,hrx,IG,hok,hlx,IC,hbb,hp,hp2,hq,hq2,zf,IK,kV]
def Ok (t:List Row):Prop:=t.length≤256∧iY t∧∀r∈t,kG r=0
theorem WO:∀ {t:List Row} (p:Option (List UInt8)),gW p t=0→iY t∧(∀r∈t,kG r=0)∧∀k,p=some k→∀r∈t,k < K r
 | [],p,_=>⟨List.Pairwise.nil,by simp,by simp⟩
 | r::t,p,h=>by
  unfold gW at h
  by_cases h1:kG r=0
  rotate_left
  ·rw [if_pos h1] at h;exact absurd h h1
  rw [if_neg (by simp [h1])] at h
  have main:∀ (h:gW (some (K r)) t=0),iY (r::t)∧∀x∈r::t,kG x=0:=by
   intro h
   obtain ⟨i1,i2,i3⟩:=WO (some (K r)) h
   refine ⟨List.Pairwise.cons (i3 _ rfl) i1,fun x hx=>?_⟩
   rcases List.mem_cons.1 hx with rfl | hx
   ·exact h1
   ·exact i2 x hx
  cases p with
  | none=>exact ⟨(main h).1,(main h).2,by simp⟩
  | some k=>
   simp only at h
   split at h
   ·cases h
   next h2=>
   split at h
   ·cases h
   next h3=>
   refine ⟨(main h).1,(main h).2, ?_⟩
   rintro _ ⟨⟩ x hx
   have hk:k < K r:=by
    rcases List.le_iff_lt_or_eq.1 (List.not_lt.1 fun e=>h3 ((qV _ _).2 e)) with e | e
    ·exact e
    ·exact absurd e.symm h2
   rcases List.mem_cons.1 hx with rfl | hx
   ·exact hk
   ·exact List.lt_trans hk ((List.pairwise_cons.1 (main h).1).1 x hx)
theorem Em (t:List Row):jK t=0↔Ok t:=by
 unfold jK Ok
 constructor
 ·intro h
  split at h
  ·cases h
  ·obtain ⟨h1,h2,_⟩:=WO none h
   exact ⟨by omega,h1,h2⟩
 ·rintro ⟨h1,h2,h3⟩
  rw [if_neg (by omega)]
  exact WQ none h2 h3 (by simp)
theorem xU (r:Row):kG r=0↔ng r.1=0∧r.2≠0:=by
 unfold kG
 by_cases h:ng r.1=0
 ·simp -implicitDefEqProofs [h]
 ·simp -implicitDefEqProofs [h]
structure Tb (t:List Row):Prop where
 ok:Ok t
 rows:Rows t
 few:iC t
theorem Tb.pos {t:List Row} (h:Tb t):Pos t:=fun r hr=>by
 have h1:=((xU r).1 (h.ok.2.2 r hr)).2
 have h2:=(h.rows.2 r hr).2
 omega
theorem Tb.rise {t:List Row} (h:Tb t):iY t:=h.ok.2.1
theorem mQ:Tb []:=⟨⟨by simp,List.Pairwise.nil,by simp⟩,⟨by simp,by simp⟩,fun r hr=>by simp at hr⟩
/-- Rows of descriptors of such tables. -/
theorem apT {a b m:List Row} (ha:Tb a) (hb:Tb b) (hl:m.length≤256) (hr:iY m) (hk:Keys a b m) (hp:Pos m):Tb m:=by
 have src:∀r∈m,ng r.1=0∧jW r.1∧fM r.1=true:=by
  intro r hr
  obtain ⟨s,hs,e⟩:=hk r hr
  rw [← e]
  rcases hs with hs | hs
  ·exact ⟨((xU s).1 (ha.ok.2.2 s hs)).1,(ha.rows.2 s hs).1,ha.few s hs⟩
  ·exact ⟨((xU s).1 (hb.ok.2.2 s hs)).1,(hb.rows.2 s hs).1,hb.few s hs⟩
 refine ⟨⟨hl,hr,fun r hr=>(xU r).2 ⟨(src r hr).1,by have:=hp r hr;omega⟩⟩,⟨by omega,fun r hr=>⟨(src r hr).2.1, ?_⟩⟩,fun r hr=>(src r hr).2.2⟩
 have:=hp r hr;omega
def tog (a b:List Row):List Row×Int:=match dP a b with
 | none=>([],3)
 | some m=>if 256 < m.length then ([],13) else (m,0)
structure fB (t:List Row):Prop where
 len:t.length≤300
 few:iC t
 rows:Rows t
theorem Tb.good {t:List Row} (h:Tb t):fB t:=⟨Nat.le_trans h.ok.1 (by decide),h.few,h.rows⟩
theorem apZ (a b:List Row) (ha:fB a) (hb:fB b):TT.lim 77 [.l (a.map row),.l (b.map row)]=some [.l ((tog a b).1.map row),.i .i64 (tog a b).2]:=by
 have k:=ajI (a.length+b.length) a b [] (Nat.le_refl _) (by have:=ha.len;have:=hb.len;simp;omega) ha.few hb.few (fun r hr=>(ha.rows.2 r hr).2) (fun r hr=>(hb.rows.2 r hr).2)
 have hl1:=ha.len
 have hl2:=hb.len
 have hw:=wrap64 (n:=(a.length:Int)+(b.length:Int)) (by omega) (by omega)
 have hok:(GV.g [.l [],.i .u64 0]).fD 2=true:=rfl
 have hc:(0:Int)≤(a.length:Int)+(b.length:Int)∧32 * ((a.length:Int)+(b.length:Int))≤281474976710656∧(a.length:Int)+(b.length:Int)≤1152921504606846976:=by omega
 unfold tog
 cases hm:dP a b with
 | none=>
  rw [hm] at k
  simp only [kV,List.map_nil] at k
  refine aH rfl rfl ?_ rfl
  simp -implicitDefEqProofs [hw,hok,hc,k]
 | some m=>
  rw [hm] at k
  simp only [kV,List.map_nil,List.nil_append] at k
  by_cases h:256 < m.length
  ·have h':(256:Int) < (m.length:Int):=by omega
   refine aH rfl rfl ?_ rfl
   simp -implicitDefEqProofs [hw,hok,hc,k,h,h']
  ·have h':¬ (256:Int) < (m.length:Int):=by omega
   simp only [if_neg h]
   refine aH rfl rfl ?_ rfl
   simp -implicitDefEqProofs [hw,hok,hc,k,h']
theorem apY {a b:List Row} (ha:Tb a) (hb:Tb b) (h:(tog a b).2=0):Tb (tog a b).1∧∀k,val (tog a b).1 k=val a k+val b k:=by
 unfold tog at h ⊢
 cases hm:dP a b with
 | none=>rw [hm] at h;cases h
 | some m=>
  rw [hm] at h
  simp only at h ⊢
  split at h
  ·cases h
  next hl=>
  rw [if_neg hl]
  obtain ⟨h1,h2,h3,h4⟩:=PI a b ha.rise hb.rise ha.pos hb.pos hm
  exact ⟨apT ha hb (Nat.not_lt.1 hl) h1 h3 h4,h2⟩
abbrev Dl:=Int×Int×List Row
def dl (d:Dl):GV:=.g [.i .u64 d.1,.i .u64 d.2.1,.l (d.2.2.map row)]
@[simp] theorem asY (d:Dl):(dl d).cells=[.i .u64 d.1,.i .u64 d.2.1,.l (d.2.2.map row)]:=rfl
@[simp] theorem asZ (d:Dl):(dl d).scalar=false:=rfl
def qX (d:Dl):Int:=if d.2.1≤d.1 then 20 else jK d.2.2
theorem afF (d:Dl) (h:fB d.2.2):TT.lim 76 [dl d]=some [.i .i64 (qX d)]:=by
 have k:=NC d.2.2 h.rows h.few
 unfold qX
 refine aH rfl rfl ?_ rfl
 by_cases h1:d.2.1≤d.1
 ·simp -implicitDefEqProofs [h1]
 ·simp -implicitDefEqProofs [h1,k]
theorem WM {d:Dl} (h:qX d=0):d.1 < d.2.1∧Ok d.2.2:=by
 unfold qX at h
 split at h
 ·cases h
 ·exact ⟨by omega,(Em _).1 h⟩
theorem fB.tb {t:List Row} (h:fB t) (ho:Ok t):Tb t:=⟨ho,h.rows,h.few⟩
theorem EH {l:List Row} (hl:Rows l) (h:xu l=true):fB l:=by
 refine ⟨?_,fun r hr=>ahI h r hr,hl⟩
 unfold xu at h
 rw [Bool.and_eq_true,decide_eq_true_iff] at h
 exact h.2
theorem anq (a b:List Row) (ha:fB a) (hb:fB b):TT.lim 163 [.l (a.map row),.l (b.map row)]=some [.b (decide (a=b))]:=
 ank a b (by have:=ha.len;omega) (by have:=hb.len;omega) (fun r hr=>(ha.rows.2 r hr).1.1) (fun r hr=>(hb.rows.2 r hr).1.1)
abbrev Sn:=Int×List Row
def sn (s:Sn):GV:=.g [.i .u64 s.1,.l (s.2.map row)]
@[simp] theorem avq (s:Sn):(sn s).cells=[.i .u64 s.1,.l (s.2.map row)]:=rfl
@[simp] theorem avr (s:Sn):(sn s).scalar=false:=rfl
def zS:Sn:=(0,[])
theorem afG (s:Sn) (h:fB s.2):TT.lim 75 [sn s]=some [.i .i64 (jK s.2)]:=by
 have k:=NC s.2 h.rows h.few
 refine aH rfl rfl ?_ rfl
 simp -implicitDefEqProofs [k]
def jv (s:Sn) (d:Dl):Sn×Int:=
 if jK s.2≠0 then (zS,jK s.2) else if qX d≠0 then (zS,qX d) else if s.1≠d.1 then (zS,19)
 else if (tog s.2 d.2.2).2≠0 then (zS,(tog s.2 d.2.2).2) else ((d.2.1,(tog s.2 d.2.2).1),0)
theorem ae7 (s:Sn) (d:Dl) (hs:fB s.2) (hd:fB d.2.2):TT.lim 74 [sn s,dl d]=some [sn (jv s d).1,.i .i64 (jv s d).2]:=by
 have k1:=afG s hs
 have k2:=afF d hd
 have k3:=apZ _ _ hs hd
 have e1:GV.g [.i .u64 s.1,.l (s.2.map row)]=sn s:=rfl
 have e2:GV.g [.i .u64 d.1,.i .u64 d.2.1,.l (d.2.2.map row)]=dl d:=rfl
 have e3:GV.g [.i .u64 0,.l []]=sn zS:=rfl
 have e4:GV.g [.i .u64 d.2.1,.l ((tog s.2 d.2.2).1.map row)]=sn (d.2.1,(tog s.2 d.2.2).1):=rfl
 unfold jv
 by_cases h1:jK s.2=0
 rotate_left
 ·refine aH rfl rfl ?_ rfl
  simp -implicitDefEqProofs [e1,k1,h1,e3]
 by_cases h2:qX d=0
 rotate_left
 ·refine aH rfl rfl ?_ rfl
  simp -implicitDefEqProofs [e1,k1,h1,e2,k2,h2,e3]
 by_cases h3:s.1=d.1
 rotate_left
 ·refine aH rfl rfl ?_ rfl
  simp -implicitDefEqProofs [e1,k1,h1,e2,k2,h2,e3,h3]
 have h3':(s.1=d.1)=True:=eq_true h3
 clear h3
 by_cases h4:(tog s.2 d.2.2).2=0
 rotate_left
 ·refine aH rfl rfl ?_ rfl
  simp -implicitDefEqProofs [e1,k1,h1,e2,k2,h2,e3,h3',k3,h4]
 ·refine aH rfl rfl ?_ rfl
  simp -implicitDefEqProofs [e1,k1,h1,e2,k2,h2,e4,h3',k3,h4]
theorem SQ {s:Sn} {d:Dl} (h:(jv s d).2=0):Ok s.2∧qX d=0∧s.1=d.1∧(tog s.2 d.2.2).2=0∧(jv s d).1=(d.2.1,(tog s.2 d.2.2).1):=by
 unfold jv at h ⊢
 split at h
 ·next h1=>exact absurd h h1
 next h1=>
 split at h
 ·next h2=>exact absurd h h2
 next h2=>
 split at h
 ·cases h
 next h3=>
 split at h
 ·next h4=>exact absurd h h4
 next h4=>
 rw [if_neg h1,if_neg h2,if_neg h3,if_neg h4]
 exact ⟨(Em _).1 (by simpa using h1),by simpa using h2,by simpa using h3,by simpa using h4,rfl⟩
theorem ae9 {s:Sn} {d:Dl} (hs:fB s.2) (hd:fB d.2.2) (h:(jv s d).2=0):Tb (jv s d).1.2∧∀k,val (jv s d).1.2 k=val s.2 k+val d.2.2 k:=by
 obtain ⟨h1,h2,h3,h4,h5⟩:=SQ h
 rw [h5]
 exact apY (hs.tb h1) (hd.tb (WM h2).2) h4
def qY:Option (Int×Int×Int)→List GV
 | some (_,b,_)=>[.i .i64 1,.i .i64 b]
 | none=>[.i .i64 0]
theorem NW (s:List UInt8) (size n least:Int):TT.lim 124 [.s s,.i .i64 size,.i .i64 n,.i .i64 least,.i .i64 size]=some (qY (some (size,n,least))):=by
 refine au rfl rfl ?_
 simp -implicitDefEqProofs [qY]
def bD (s:List UInt8) (k:Nat):Int:=((s.getD k 0).toNat:Int)
theorem DW (s:List UInt8) (k:Nat):0≤bD s k∧bD s k < 256:=by unfold bD;have:=(s.getD k 0).toNat_lt;omega
theorem SX {s:List UInt8} {k:Nat} (h:k < s.length):s[k]? = some (s.getD k 0):=by simp [List.getD,h]
theorem Dq (s:List UInt8) (size n least:Int) (i:Nat) (hi:(i:Int) < size) (hl:i < s.length) (h0:0≤n) (h1:n < 1000000000000) (hs:size < 1000) :
 ∀out,(if bD s i < 128 then some (qY none) else if 192≤bD s i then some (qY none) else TT.lim 124 [.s s,.i .i64 size,.i .i64 (64 * n+bD s i - 128),.i .i64 least,.i .i64 ((i:Int)+1)])=some out→
 TT.lim 124 [.s s,.i .i64 size,.i .i64 n,.i .i64 least,.i .i64 i]=some out:=by
 intro out h
 have hb:=DW s i
 have hx:(s[i]?).bind (fun c=>some (GV.i .u8 c.toNat))=some (.i .u8 (bD s i)):=by rw [SX hl];rfl
 generalize bD s i=x at *
 have w1:=wrap64 (n:=x) (by omega) (by omega)
 refine au rfl rfl ?_
 by_cases c1:x < 128
 ·rw [if_pos c1] at h
  rw [← h]
  simp -implicitDefEqProofs [hi,hx,w1,c1,qY]
 rw [if_neg c1] at h
 by_cases c2:192≤x
 ·rw [if_pos c2] at h
  rw [← h]
  simp -implicitDefEqProofs [hi,hx,w1,c1,c2,qY]
 rw [if_neg c2] at h
 have w2:=wrap64 (n:=64 * n) (by omega) (by omega)
 have w3:=wrap64 (n:=64 * n+x) (by omega) (by omega)
 have w4:=wrap64 (n:=64 * n+x - 128) (by omega) (by omega)
 have w5:=wrap64 (n:=(i:Int)+1) (by omega) (by omega)
 simp -implicitDefEqProofs [hi,hx,w1,c1,c2,w2,w3,w4,w5,h]
def yR (v least size:Int):Int:=if v < least then 0 else if 1114111 < v then 0 else if 55296≤v∧v < 57344 then 0 else size
abbrev dZ (x:Int):Prop:=x < 128∨192≤x
def Ih (n b0 b1 b2 b3:Int):Int:=
 if n=0 then 0 else if b0 < 128 then 1 else if b0 < 192 then 0
 else if b0 < 224 then (if n < 2 then 0 else if dZ b1 then 0 else yR (64 * (b0 - 192)+b1 - 128) 128 2)
 else if b0 < 240 then (if n < 3 then 0 else if dZ b1∨dZ b2 then 0 else yR (64 * (64 * (b0 - 224)+b1 - 128)+b2 - 128) 2048 3)
 else if b0 < 248 then (if n < 4 then 0 else if dZ b1∨dZ b2∨dZ b3 then 0 else yR (64 * (64 * (64 * (b0 - 240)+b1 - 128)+b2 - 128)+b3 - 128) 65536 4)
 else 0
/-- What the loop comes to: two, three, four bytes. -/
theorem ajF (s:List UInt8) (n least:Int) (hl:2≤s.length) (h0:0≤n) (h1:n < 64) :
 TT.lim 124 [.s s,.i .i64 2,.i .i64 n,.i .i64 least,.i .i64 1]=some (qY (if dZ (bD s 1) then none else some (2,64 * n+bD s 1 - 128,least))):=by
 refine Dq s 2 n least 1 (by decide) (by omega) h0 (by omega) (by decide) _ ?_
 have e:=NW s 2 (64 * n+bD s 1 - 128) least
 by_cases c:dZ (bD s 1)
 ·rw [if_pos c]
  rcases c with c | c
  ·exact if_pos c
  ·rw [if_neg (by omega)];exact if_pos c
 ·rw [if_neg c,if_neg (fun h=>c (.inl h)),if_neg (fun h=>c (.inr h))];exact e
theorem ajG (s:List UInt8) (n least:Int) (hl:3≤s.length) (h0:0≤n) (h1:n < 64) :
 TT.lim 124 [.s s,.i .i64 3,.i .i64 n,.i .i64 least,.i .i64 1]=some (qY (if dZ (bD s 1)∨dZ (bD s 2) then none else some (3,64 * (64 * n+bD s 1 - 128)+bD s 2 - 128,least))):=by
 have a1:=DW s 1
 refine Dq s 3 n least 1 (by decide) (by omega) h0 (by omega) (by decide) _ ?_
 by_cases c:dZ (bD s 1)
 ·rw [if_pos (show dZ (bD s 1)∨dZ (bD s 2) from .inl c)]
  rcases c with c | c
  ·exact if_pos c
  ·rw [if_neg (by omega)];exact if_pos c
 ·rw [if_neg (fun h=>c (.inl h)),if_neg (fun h=>c (.inr h))]
  have c1:128≤bD s 1:=by omega
  refine Dq s 3 _ least 2 (by decide) (by omega) (by show 0≤64 * n+bD s 1 - 128;omega) (by show 64 * n+bD s 1 - 128 < _;omega) (by decide) _ ?_
  have e:=NW s 3 (64 * (64 * n+bD s 1 - 128)+bD s 2 - 128) least
  by_cases d:dZ (bD s 2)
  ·rw [if_pos (show dZ (bD s 1)∨dZ (bD s 2) from .inr d)]
   rcases d with d | d
   ·exact if_pos d
   ·rw [if_neg (by omega)];exact if_pos d
  ·rw [if_neg (show ¬ (dZ (bD s 1)∨dZ (bD s 2)) by simp [c,d]),if_neg (fun h=>d (.inl h)),if_neg (fun h=>d (.inr h))];exact e
theorem ajH (s:List UInt8) (n least:Int) (hl:4≤s.length) (h0:0≤n) (h1:n < 64) :
 TT.lim 124 [.s s,.i .i64 4,.i .i64 n,.i .i64 least,.i .i64 1]=some (qY (if dZ (bD s 1)∨dZ (bD s 2)∨dZ (bD s 3) then none else some (4,64 * (64 * (64 * n+bD s 1 - 128)+bD s 2 - 128)+bD s 3 - 128,least))):=by
 have a1:=DW s 1
 have a2:=DW s 2
 refine Dq s 4 n least 1 (by decide) (by omega) h0 (by omega) (by decide) _ ?_
 by_cases c:dZ (bD s 1)
 ·rw [if_pos (show dZ (bD s 1)∨dZ (bD s 2)∨dZ (bD s 3) from .inl c)]
  rcases c with c | c
  ·exact if_pos c
  ·rw [if_neg (by omega)];exact if_pos c
 ·rw [if_neg (fun h=>c (.inl h)),if_neg (fun h=>c (.inr h))]
  have c1:128≤bD s 1:=by omega
  refine Dq s 4 _ least 2 (by decide) (by omega) (by show 0≤64 * n+bD s 1 - 128;omega) (by show 64 * n+bD s 1 - 128 < _;omega) (by decide) _ ?_
  by_cases d:dZ (bD s 2)
  ·rw [if_pos (show dZ (bD s 1)∨dZ (bD s 2)∨dZ (bD s 3) from .inr (.inl d))]
   rcases d with d | d
   ·exact if_pos d
   ·rw [if_neg (by omega)];exact if_pos d
  ·rw [if_neg (fun h=>d (.inl h)),if_neg (fun h=>d (.inr h))]
   have d1:128≤bD s 2:=by omega
   refine Dq s 4 _ least 3 (by decide) (by omega) (by show 0≤64 * (64 * n+bD s 1 - 128)+bD s 2 - 128;omega) (by show 64 * (64 * n+bD s 1 - 128)+bD s 2 - 128 < _;omega) (by decide) _ ?_
   have e:=NW s 4 (64 * (64 * (64 * n+bD s 1 - 128)+bD s 2 - 128)+bD s 3 - 128) least
   by_cases f:dZ (bD s 3)
   ·rw [if_pos (show dZ (bD s 1)∨dZ (bD s 2)∨dZ (bD s 3) from .inr (.inr f))]
    rcases f with f | f
    ·exact if_pos f
    ·rw [if_neg (by omega)];exact if_pos f
   ·rw [if_neg (show ¬ (dZ (bD s 1)∨dZ (bD s 2)∨dZ (bD s 3)) by simp [c,d,f]),if_neg (fun h=>f (.inl h)),if_neg (fun h=>f (.inr h))];exact e
def Ig (s:List UInt8):Int:=Ih s.length (bD s 0) (bD s 1) (bD s 2) (bD s 3)
theorem NR {c:Prop} [Decidable c] (x:Int×Int×Int) (h:c):qY (if c then none else some x)=[.i .i64 0]:=by rw [if_pos h];rfl
theorem NS {c:Prop} [Decidable c] (a b d:Int) (h:¬ c):qY (if c then none else some (a,b,d))=[.i .i64 1,.i .i64 b]:=by rw [if_neg h];rfl
set_option maxHeartbeats 4000000 in
theorem ahO (s:List UInt8) (hl:s.length≤140737488351232):TT.lim 123 [.s s]=some [.i .i64 (Ig s)]:=by
 have hb:=DW s 0
 have k2:=fun hl h0 h1=>ajF s (bD s 0 - 192) 128 hl h0 h1
 have k3:=fun hl h0 h1=>ajG s (bD s 0 - 224) 2048 hl h0 h1
 have k4:=fun hl h0 h1=>ajH s (bD s 0 - 240) 65536 hl h0 h1
 unfold Ig Ih
 by_cases hn:s.length=0
 ·refine aH rfl rfl ?_ rfl
  simp -implicitDefEqProofs [hn]
 have hn':¬ (s.length:Int)=0:=by omega
 have hne:¬ s=[]:=fun e=>hn (by rw [e];rfl)
 have hx:(s[0]?).bind (fun c=>some (GV.i .u8 c.toNat))=some (.i .u8 (bD s 0)):=by rw [SX (by omega)];rfl
 have w1:=wrap64 (n:=bD s 0) (by omega) (by omega)
 rw [if_neg hn']
 generalize bD s 0=x at *
 generalize bD s 1=b1 at *
 generalize bD s 2=b2 at *
 generalize bD s 3=b3 at *
 by_cases c0:x < 128
 ·refine aH rfl rfl ?_ rfl
  simp -implicitDefEqProofs [hn',hne,hx,w1,c0]
 by_cases c1:x < 192
 ·have d1:¬ 192≤x:=by omega
  have d2:¬ 224≤x:=by omega
  have d3:¬ 240≤x:=by omega
  refine aH rfl rfl ?_ rfl
  simp -implicitDefEqProofs [hn',hne,hx,w1,c0,c1,d1,d2,d3]
 have d1:192≤x:=by omega
 have w2:=wrap64 (n:=x - 192) (by omega) (by omega)
 by_cases c2:x < 224
 ·rw [if_neg c0,if_neg c1,if_pos c2]
  by_cases n2:(s.length:Int) < 2
  ·refine aH rfl rfl ?_ rfl
   simp -implicitDefEqProofs [hn',hne,hx,w1,c0,d1,c2,w2,n2]
  rw [if_neg n2]
  have k:=k2 (by omega) (by omega) (by omega)
  by_cases e1:dZ b1
  ·rw [NR _ e1] at k
   rw [if_pos e1]
   refine aH rfl rfl ?_ rfl
   simp -implicitDefEqProofs [hn',hne,hx,w1,c0,d1,c2,w2,n2,k]
  rw [NS _ _ _ e1] at k
  rw [if_neg e1]
  generalize 64 * (x - 192)+b1 - 128=v at *
  unfold yR
  by_cases f1:v < 128
  ·refine aH rfl rfl ?_ rfl
   simp -implicitDefEqProofs [hn',hne,hx,w1,c0,d1,c2,w2,n2,k,f1]
  by_cases f2:1114111 < v
  ·refine aH rfl rfl ?_ rfl
   simp -implicitDefEqProofs [hn',hne,hx,w1,c0,d1,c2,w2,n2,k,f1,f2]
  by_cases f3:55296≤v
  ·by_cases f4:v < 57344
   ·refine aH rfl rfl ?_ rfl
    simp -implicitDefEqProofs [hn',hne,hx,w1,c0,d1,c2,w2,n2,k,f1,f2,f3,f4]
   ·refine aH rfl rfl ?_ rfl
    simp -implicitDefEqProofs [hn',hne,hx,w1,c0,d1,c2,w2,n2,k,f1,f2,f3,f4]
  ·refine aH rfl rfl ?_ rfl
   simp -implicitDefEqProofs [hn',hne,hx,w1,c0,d1,c2,w2,n2,k,f1,f2,f3]
 have d2:224≤x:=by omega
 have w3:=wrap64 (n:=x - 224) (by omega) (by omega)
 by_cases c3:x < 240
 ·rw [if_neg c0,if_neg c1,if_neg c2,if_pos c3]
  by_cases n2:(s.length:Int) < 3
  ·refine aH rfl rfl ?_ rfl
   simp -implicitDefEqProofs [hn',hne,hx,w1,c0,d1,c2,d2,c3,w3,n2]
  rw [if_neg n2]
  have k:=k3 (by omega) (by omega) (by omega)
  by_cases e1:dZ b1∨dZ b2
  ·rw [NR _ e1] at k
   rw [if_pos e1]
   refine aH rfl rfl ?_ rfl
   simp -implicitDefEqProofs [hn',hne,hx,w1,c0,d1,c2,d2,c3,w3,n2,k]
  rw [NS _ _ _ e1] at k
  rw [if_neg e1]
  generalize 64 * (64 * (x - 224)+b1 - 128)+b2 - 128=v at *
  unfold yR
  by_cases f1:v < 2048
  ·refine aH rfl rfl ?_ rfl
   simp -implicitDefEqProofs [hn',hne,hx,w1,c0,d1,c2,d2,c3,w3,n2,k,f1]
  by_cases f2:1114111 < v
  ·refine aH rfl rfl ?_ rfl
   simp -implicitDefEqProofs [hn',hne,hx,w1,c0,d1,c2,d2,c3,w3,n2,k,f1,f2]
  by_cases f3:55296≤v
  ·by_cases f4:v < 57344
   ·refine aH rfl rfl ?_ rfl
    simp -implicitDefEqProofs [hn',hne,hx,w1,c0,d1,c2,d2,c3,w3,n2,k,f1,f2,f3,f4]
   ·refine aH rfl rfl ?_ rfl
    simp -implicitDefEqProofs [hn',hne,hx,w1,c0,d1,c2,d2,c3,w3,n2,k,f1,f2,f3,f4]
  ·refine aH rfl rfl ?_ rfl
   simp -implicitDefEqProofs [hn',hne,hx,w1,c0,d1,c2,d2,c3,w3,n2,k,f1,f2,f3]
 have d3:240≤x:=by omega
 have w4:=wrap64 (n:=x - 240) (by omega) (by omega)
 by_cases c4:x < 248
 ·rw [if_neg c0,if_neg c1,if_neg c2,if_neg c3,if_pos c4]
  by_cases n2:(s.length:Int) < 4
  ·refine aH rfl rfl ?_ rfl
   simp -implicitDefEqProofs [hn',hne,hx,w1,c0,d1,c2,d2,c3,d3,c4,w4,n2]
  rw [if_neg n2]
  have k:=k4 (by omega) (by omega) (by omega)
  by_cases e1:dZ b1∨dZ b2∨dZ b3
  ·rw [NR _ e1] at k
   rw [if_pos e1]
   refine aH rfl rfl ?_ rfl
   simp -implicitDefEqProofs [hn',hne,hx,w1,c0,d1,c2,d2,c3,d3,c4,w4,n2,k]
  rw [NS _ _ _ e1] at k
  rw [if_neg e1]
  generalize 64 * (64 * (64 * (x - 240)+b1 - 128)+b2 - 128)+b3 - 128=v at *
  unfold yR
  by_cases f1:v < 65536
  ·refine aH rfl rfl ?_ rfl
   simp -implicitDefEqProofs [hn',hne,hx,w1,c0,d1,c2,d2,c3,d3,c4,w4,n2,k,f1]
  by_cases f2:1114111 < v
  ·refine aH rfl rfl ?_ rfl
   simp -implicitDefEqProofs [hn',hne,hx,w1,c0,d1,c2,d2,c3,d3,c4,w4,n2,k,f1,f2]
  by_cases f3:55296≤v
  ·by_cases f4:v < 57344
   ·refine aH rfl rfl ?_ rfl
    simp -implicitDefEqProofs [hn',hne,hx,w1,c0,d1,c2,d2,c3,d3,c4,w4,n2,k,f1,f2,f3,f4]
   ·refine aH rfl rfl ?_ rfl
    simp -implicitDefEqProofs [hn',hne,hx,w1,c0,d1,c2,d2,c3,d3,c4,w4,n2,k,f1,f2,f3,f4]
  ·refine aH rfl rfl ?_ rfl
   simp -implicitDefEqProofs [hn',hne,hx,w1,c0,d1,c2,d2,c3,d3,c4,w4,n2,k,f1,f2,f3]
 ·refine aH rfl rfl ?_ rfl
  simp -implicitDefEqProofs [hn',hne,hx,w1,c0,c1,d1,c2,d2,c3,d3,c4]
set_option maxHeartbeats 8000000 in
/-- It is the model's own way of decoding. -/
theorem ahR (n b0 b1 b2 b3:Nat) (hn:0 < n) (h0:b0 < 256) (h1:b1 < 256) (h2:b2 < 256) (h3:b3 < 256):Ih n b0 b1 b2 b3=if (Lib.decodeN n b0 b1 b2 b3).1=65533∧(Lib.decodeN n b0 b1 b2 b3).2=1 then 0 else ((Lib.decodeN n b0 b1 b2 b3).2:Nat):=by
 generalize hd:Lib.decodeN n b0 b1 b2 b3=d
 unfold Lib.decodeN at hd
 unfold Ih yR
 rw [if_neg (by omega)]
 repeat' split at hd
 all_goals subst hd
 all_goals dsimp only
 ·rw [if_pos (by omega),if_neg (by omega)];rfl
 all_goals rw [if_neg (show ¬ (b0:Int) < 128 by omega)]
 all_goals first | rw [if_neg (by omega)] | rw [if_pos (show True∧True from ⟨trivial,trivial⟩)] | skip
 all_goals (repeat' split)
 all_goals first | omega | (simp only [not_true_eq_false,and_self] at *;omega)
theorem ahQ (s:List UInt8) (hne:s≠[]):Ig s=if (Lib.decodeL s).1=65533∧(Lib.decodeL s).2=1 then 0 else ((Lib.decodeL s).2:Nat):=by
 unfold Ig bD
 rw [Lib.decodeL_N]
 exact ahR _ _ _ _ _ (List.length_pos_iff.2 hne) (UInt8.toNat_lt _) (UInt8.toNat_lt _) (UInt8.toNat_lt _) (UInt8.toNat_lt _)
theorem ag2 (s:List UInt8):1≤(Lib.decodeL s).2:=by
 rw [Lib.decodeL_N]
 rcases Lib.decodeN_shape s.length (s.getD 0 0).toNat (s.getD 1 0).toNat (s.getD 2 0).toNat (s.getD 3 0).toNat with ⟨_,e⟩ | ⟨_,_,_,_,e⟩ | ⟨_,_,_,_,_,_,e⟩ | ⟨_,_,_,_,_,_,_,e⟩ | e
 all_goals rw [e];dsimp only;omega
theorem abW:∀ (n:Nat) (s:List UInt8),s.length≤n→s.length≤140737488351232→TT.lim 122 [.s s]=some (if Lib.validGoD n s=true then [.i .i64 1] else [.i .i64 0])
 | 0,s,hn,hl=>by
  obtain rfl:s=[]:=List.eq_nil_of_length_eq_zero (by omega)
  refine au rfl rfl ?_
  simp -implicitDefEqProofs [Lib.validGoD]
 | n+1,s,hn,hl=>by
  by_cases hne:s=[]
  ·subst hne
   refine au rfl rfl ?_
   simp -implicitDefEqProofs [Lib.validGoD]
  have hp:=List.length_pos_iff.2 hne
  have k:=ahO s hl
  have hf:=ahQ s hne
  have hle:=Lib.decodeL_le s hne
  have hd:=ag2 s
  have hp':(0:Int) < (s.length:Int):=by omega
  unfold Lib.validGoD
  rw [if_neg hne]
  by_cases c:(Lib.decodeL s).1=65533∧(Lib.decodeL s).2=1
  ·rw [if_pos c] at hf
   rw [hf] at k
   rw [if_pos c]
   refine au rfl rfl ?_
   simp -implicitDefEqProofs [hp,hp',k]
  ·rw [if_neg c] at hf
   rw [hf] at k
   rw [if_neg c]
   have ih:=abW n (s.drop (Lib.decodeL s).2) (by simp;omega) (by simp;omega)
   generalize (Lib.decodeL s).2=w at *
   have hw:¬ w=0:=by omega
   have ht:List.take s.length s=s:=List.take_length
   refine au rfl rfl ?_
   simp -implicitDefEqProofs [hp,hp',k,hw,hle,ht,ih]
theorem ah4 (s:List UInt8) (h:s.length≤140737488351232):TT.lim 121 [.s s]=some [.b (Lib.validD s)]:=by
 have k:=abW s.length s (Nat.le_refl _) h
 unfold Lib.validD
 refine aH rfl rfl ?_ rfl
 cases hv:Lib.validGoD s.length s<;>rw [hv] at k<;>simp at k<;>simp [k]
theorem Ej (s:List UInt8) (lo hi:Int) (h:s.length≤140737488351232):TT.lim 120 [.s s,.i .i64 lo,.i .i64 hi]=some [.i .i64 (iw s lo hi)]:=by
 have h20:=ah4 s h
 refine aH rfl rfl ?_ rfl
 unfold iw
 by_cases h1:(s.length:Int) < lo
 ·simp -implicitDefEqProofs [h1]
 ·by_cases h2:hi < (s.length:Int)
  ·simp -implicitDefEqProofs [h1,h2]
  ·cases hv:Lib.validD s<;>rw [hv] at h20<;>simp [h1,h2,h20,hv]
theorem ag6 (x:dh) (h1:x.1.length≤140737488351232) (h2:x.2.length≤140737488351232):TT.lim 119 [ent x]=some [.i .i64 (uZ x)]:=by
 have k1:=Ej x.1 1 64 h1
 have k2:=Ej x.2 0 256 h2
 refine aH rfl rfl ?_ rfl
 unfold uZ
 by_cases h:iw x.1 1 64=0
 ·simp -implicitDefEqProofs [k1,h,k2]
 ·simp -implicitDefEqProofs [k1,h]
def tC:List UInt8→List UInt8→Option Bool
 | x::a,y::b=>if x=y then tC a b else some (decide (x < y))
 | _,_=>none
theorem Ut:∀a b:List UInt8,Op.bytesLess a b=(tC a b).getD (decide (a.length < b.length))
 | [],[]=>rfl
 | [],_::_=>by simp [Op.bytesLess,tC]
 | _::_,[]=>by simp [Op.bytesLess,tC]
 | x::a,y::b=>by
  unfold Op.bytesLess tC
  rw [Ut a b]
  by_cases h:x=y
  ·subst h
   simp -implicitDefEqProofs [UInt8.lt_irrefl]
  ·simp -implicitDefEqProofs [h]
def BZ (a b:List UInt8):Option Bool→List GV
 | some r=>[.i .i64 0,.b r]
 | none=>[.i .i64 1]
theorem abX (a b:List UInt8) (ha:a.length≤140737488351232) (hb:b.length≤140737488351232):∀m i:Nat,i+m=a.length→TT.lim 128 [.s a,.s b,.i .i64 i]=some (BZ a b (tC (a.drop i) (b.drop i)))
 | 0,i,hi=>by
  have h0:a.drop i=[]:=List.drop_eq_nil_of_le (by omega)
  have h:¬ ((i:Int) < a.length):=by omega
  refine au rfl rfl ?_
  simp -implicitDefEqProofs [h,h0,tC,BZ]
 | m+1,i,hi=>by
  have hlt:i < a.length:=by omega
  have h:((i:Int) < a.length):=by omega
  by_cases hlb:i < b.length
  rotate_left
  ·have h0:b.drop i=[]:=List.drop_eq_nil_of_le (by omega)
   have h1:¬ ((i:Int) < b.length):=by omega
   have hd:tC (a.drop i) []=none:=by cases a.drop i<;>rfl
   refine au rfl rfl ?_
   simp -implicitDefEqProofs [h,h0,h1,hd,BZ]
  have hb1:((i:Int) < b.length):=by omega
  have ih:TT.lim 128 [.s a,.s b,.i .i64 ((i:Int)+1)]=_:=abX a b ha hb m (i+1) (by omega)
  have hw:=wrap64 (n:=(i:Int)+1) (by omega) (by omega)
  rw [List.drop_eq_getElem_cons hlt,List.drop_eq_getElem_cons hlb]
  unfold tC
  by_cases e:a[i]=b[i]
  ·rw [if_pos e]
   have e':((a[i].toNat:Int)=(b[i].toNat:Int))=True:=eq_true (by rw [e])
   refine au rfl rfl ?_
   simp -implicitDefEqProofs [h,hlt,hlb,hb1,e',hw,ih]
  ·rw [if_neg e]
   have e':¬ (a[i].toNat:Int)=(b[i].toNat:Int):=fun h=>e (UInt8.toNat_inj.1 (by omega))
   have hd:decide (a[i] < b[i])=decide (a[i].toNat < b[i].toNat):=by rw [Bool.eq_iff_iff];simp [UInt8.lt_iff_toNat_lt]
   refine au rfl rfl ?_
   simp -implicitDefEqProofs [h,hlt,hlb,hb1,e',hd,BZ]
theorem abE (a b:List UInt8) (ha:a.length≤140737488351232) (hb:b.length≤140737488351232):TT.lim 127 [.s a,.s b]=some [.b (Op.bytesLess a b)]:=by
 have k:TT.lim 128 [.s a,.s b,.i .i64 0]=_:=abX a b ha hb a.length 0 (by omega)
 rw [List.drop_zero,List.drop_zero] at k
 rw [Ut]
 refine aH rfl rfl ?_ rfl
 cases hd:tC a b with
 | none=>
  rw [hd] at k
  have hl:decide ((a.length:Int) < (b.length:Int))=decide (a.length < b.length):=by rw [Bool.eq_iff_iff];simp
  simp -implicitDefEqProofs [k,BZ,hl]
 | some r=>
  rw [hd] at k
  simp -implicitDefEqProofs [k,BZ]
def AP (x y:dh):Int:=if Op.bytesLess x.1 y.1=true then -1 else if x.1=y.1∧Op.bytesLess x.2 y.2=true then -1 else if x=y then 0 else 1
structure DK (x:dh):Prop where
 key:x.1.length≤140737488351232
 val:x.2.length≤140737488351232
theorem WS (x y:dh) (hx:DK x) (hy:DK y):TT.lim 126 [ent x,ent y]=some [.i .i64 (AP x y)]:=by
 have k1:=abE x.1 y.1 hx.key hy.key
 have k2:=abE x.2 y.2 hx.val hy.val
 have ke:=H9 x y
 unfold AP
 refine aH rfl rfl ?_ rfl
 cases h1:Op.bytesLess x.1 y.1 with
 | true=>rw [h1] at k1;simp [k1]
 | false=>
  rw [h1] at k1
  by_cases h2:x.1=y.1
  ·have h2':(x.1=y.1)=True:=eq_true h2
   clear h2
   cases h3:Op.bytesLess x.2 y.2 with
   | true=>rw [h3] at k2;simp [k1,h2',k2]
   | false=>
    rw [h3] at k2
    by_cases h4:x=y
    ·have h4':decide (x=y)=true:=by simp [h4]
     rw [h4'] at ke
     have ah7:(x=y)=True:=eq_true h4
     clear h4
     simp -implicitDefEqProofs [k1,h2',k2,ke,ah7]
    ·have h4':decide (x=y)=false:=by simp [h4]
     rw [h4'] at ke
     simp -implicitDefEqProofs [k1,h2',k2,ke,h4]
  ·by_cases h4:x=y
   ·exact absurd (by rw [h4]) h2
   ·have h4':decide (x=y)=false:=by simp [h4]
    rw [h4'] at ke
    simp -implicitDefEqProofs [k1,h2,ke,h4]
def yG (p x:List UInt8):Int:=if x=p then 14 else if Op.bytesLess x p=true then 7 else 0
theorem afd (p x:dh) (hp:DK p) (hx:DK x):TT.lim 125 [ent p,ent x]=some [.i .i64 (yG p.1 x.1)]:=by
 have k:=WS p x hp hx
 have e1:GV.g [.s p.1,.s p.2]=ent p:=rfl
 have e2:GV.g [.s x.1,.s x.2]=ent x:=rfl
 unfold yG
 by_cases h1:x.1=p.1
 ·have h1':(p.1=x.1)=True:=eq_true h1.symm
  rw [if_pos h1]
  refine aH rfl rfl ?_ rfl
  simp -implicitDefEqProofs [h1']
 rw [if_neg h1]
 have h1':¬ p.1=x.1:=fun e=>h1 e.symm
 have hne:¬ p=x:=fun e=>h1' (by rw [e])
 have hc:AP p x=if Op.bytesLess x.1 p.1=true then 1 else -1:=by
  unfold AP
  by_cases h2:p.1 < x.1
  ·rw [if_pos ((qV _ _).2 h2),if_neg fun h=>List.lt_irrefl _ (List.lt_trans h2 ((qV _ _).1 h))]
  ·have h3:x.1 < p.1:=by
    rcases List.le_iff_lt_or_eq.1 (List.not_lt.1 h2) with h | h
    ·exact h
    ·exact absurd h h1
   rw [if_neg fun h=>h2 ((qV _ _).1 h),if_neg fun h=>h1' h.1,if_neg hne,if_pos ((qV _ _).2 h3)]
 rw [hc] at k
 refine aH rfl rfl ?_ rfl
 cases h3:Op.bytesLess x.1 p.1 with
 | true=>rw [h3] at k;simp [h1',e1,e2,k]
 | false=>rw [h3] at k;simp [h1',e1,e2,k]
theorem jW.small {d:List dh} (h:jW d):∀x∈d,DK x:=fun x hx=>⟨(h.2 x hx).1,(h.2 x hx).2⟩
theorem Pn (d:List dh) (e i:Int) (he:e≠0):TT.lim 118 [.l (d.map ent),.i .i64 e,.i .i64 i]=some [.i .i64 0,.i .i64 e]:=by
 refine au rfl rfl ?_
 by_cases h:i < (d.length:Int)
 ·simp -implicitDefEqProofs [h,he]
 ·simp -implicitDefEqProofs [h]
theorem abV (d:List dh) (hd:jW d):∀m i:Nat,i+m=d.length→TT.lim 118 [.l (d.map ent),.i .i64 0,.i .i64 i]=some [.i .i64 0,.i .i64 (jw (prevK d i) (d.drop i))]
 | 0,i,hi=>by
  have h0:d.drop i=[]:=List.drop_eq_nil_of_le (by omega)
  refine au rfl rfl ?_
  have h:¬ ((i:Int) < d.length):=by omega
  simp -implicitDefEqProofs [h,h0,jw]
 | m+1,i,hi=>by
  have hlt:i < d.length:=by omega
  have hx:=hd.small d[i] (List.getElem_mem hlt)
  have hp:=ag6 d[i] hx.key hx.val
  have ih:TT.lim 118 [.l (d.map ent),.i .i64 0,.i .i64 ((i:Int)+1)]=_:=abV d hd m (i+1) (by omega)
  have hst:=fun e he=>Pn d e ((i:Int)+1) he
  have hpk:prevK d (i+1)=some d[i].1:=by unfold prevK;rw [if_neg (by omega)];simp [hlt]
  rw [hpk] at ih
  have hdr:d.drop i=d[i]::d.drop (i+1):=List.drop_eq_getElem_cons hlt
  rw [hdr]
  have h:((i:Int) < d.length):=by omega
  have hw:=wrap64 (n:=(i:Int)+1) (by omega) (by have:=hd.1;omega)
  have he:GV.g [GV.s d[i].1,GV.s d[i].2]=ent d[i]:=rfl
  by_cases h1:uZ d[i]=0
  rotate_left
  ·have hs:=hst _ h1
   have hc:jw (prevK d i) (d[i]::d.drop (i+1))=uZ d[i]:=by
    cases prevK d i<;>simp [jw,h1]
   rw [hc]
   refine au rfl rfl ?_
   simp -implicitDefEqProofs [h,hlt,he,hp,h1,hw,hs]
  by_cases h0:i=0
  ·subst h0
   have hc:jw (prevK d 0) (d[0]::d.drop 1)=jw (some d[0].1) (d.drop 1):=by simp [prevK,jw,h1]
   rw [hc]
   simp only [Int.natCast_zero,Int.zero_add] at hw ih
   have hpos:(0:Int) < (d.length:Int):=by omega
   generalize jw (some d[0].1) (d.drop 1)=out at *
   refine au rfl rfl ?_
   simp -implicitDefEqProofs [h,hlt,hpos,he,hp,h1,hw,ih]
  ·have hi1:i - 1 < d.length:=by omega
   have hpk2:prevK d i=some d[i - 1].1:=by unfold prevK;rw [if_neg h0];simp [hi1]
   have hw2:=wrap64 (n:=(i:Int) - 1) (by omega) (by have:=hd.1;omega)
   have hi0:(0:Int) < (i:Int):=by omega
   have abk:0 < i:=by omega
   have ht:((i:Int) - 1).toNat=i - 1:=by omega
   have hnl:(1:Int)≤(i:Int):=by omega
   have hge:(0:Int)≤(i:Int) - 1:=by omega
   have hy:=hd.small d[i - 1] (List.getElem_mem hi1)
   have kb:=afd d[i - 1] d[i] hy hx
   have he2:GV.g [GV.s d[i - 1].1,GV.s d[i - 1].2]=ent d[i - 1]:=rfl
   have hc:jw (prevK d i) (d[i]::d.drop (i+1))=if yG d[i - 1].1 d[i].1≠0 then yG d[i - 1].1 d[i].1 else jw (some d[i].1) (d.drop (i+1)):=by
    rw [hpk2]
    unfold yG
    conv=>lhs;unfold jw
    rw [if_neg (by simp [h1])]
    by_cases q1:d[i].1=d[i - 1].1
    ·simp -implicitDefEqProofs [q1]
    ·by_cases q2:Op.bytesLess d[i].1 d[i - 1].1=true
     ·simp -implicitDefEqProofs [q1,q2]
     ·simp -implicitDefEqProofs [q1,q2]
   rw [hc]
   have hst2:=hst (yG d[i - 1].1 d[i].1)
   generalize yG d[i - 1].1 d[i].1=bb at *
   generalize jw (some d[i].1) (d.drop (i+1))=out at *
   by_cases hb:bb=0
   ·subst hb
    refine au rfl rfl ?_
    simp -implicitDefEqProofs [h,hlt,he,he2,hp,h1,hi0,abk,hw2,ht,hge,hi1,hnl,kb,hw,ih]
   ·have hs:=hst2 hb
    refine au rfl rfl ?_
    simp -implicitDefEqProofs [h,hlt,he,he2,hp,h1,hi0,abk,hw2,ht,hge,hi1,hnl,kb,hw,hb,hs]
theorem WJ (d:List dh) (hd:jW d):TT.lim 117 [.l (d.map ent)]=some [.i .i64 (ng d)]:=by
 have h17:TT.lim 118 [.l (d.map ent),.i .i64 0,.i .i64 0]=_:=abV d hd d.length 0 (by omega)
 have hpk:prevK d 0=none:=rfl
 rw [hpk,List.drop_zero] at h17
 have w1:=jI (n:=(d.length:Int)) (by omega) (by have:=hd.1;omega)
 have s1:=Pn d 12 0 (by decide)
 have s2:=Pn d 13 0 (by decide)
 refine aH rfl rfl ?_ rfl
 unfold ng
 by_cases h0:d.length=0
 ·have:d=[]:=List.eq_nil_of_length_eq_zero h0
  subst this
  simp only [List.map_nil] at s1
  simp -implicitDefEqProofs [IntKind.wrap,IntKind.signed,s1]
 ·have hne:¬ d=[]:=fun e=>h0 (by rw [e];rfl)
  by_cases h1:16 < d.length
  ·have h1':(16:Int) < (d.length:Int):=by omega
   simp -implicitDefEqProofs [w1,h0,hne,h1,h1',s2]
  ·have h1':¬ (16:Int) < (d.length:Int):=by omega
   simp -implicitDefEqProofs [w1,h0,hne,h1,h1',h17]
theorem adn (r:Row) (hd:jW r.1):TT.lim 116 [row r]=some [.i .i64 (kG r)]:=by
 have k:=WJ r.1 hd
 refine aH rfl rfl ?_ rfl
 unfold kG
 by_cases h:ng r.1=0
 ·by_cases h2:r.2=0
  ·simp -implicitDefEqProofs [k,h,h2]
  ·simp -implicitDefEqProofs [k,h,h2]
 ·simp -implicitDefEqProofs [k,h]
theorem abT (d:List dh) (hd:d.length≤40):∀ (m i:Nat) (acc:List dh),i+m=d.length→acc.length=i→TT.lim 88 [.l (acc.map ent),.l (d.map ent),.i .i64 d.length,.i .i64 i]=some [.i .i64 0,.l ((acc++d.drop i).map ent)]
 | 0,i,acc,hi,ha=>by
  have h0:d.drop i=[]:=List.drop_eq_nil_of_le (by omega)
  have h:¬ ((i:Int) < d.length):=by omega
  refine au rfl rfl ?_
  simp -implicitDefEqProofs [h,h0]
 | m+1,i,acc,hi,ha=>by
  have hlt:i < d.length:=by omega
  have ih:TT.lim 88 [.l ((acc++[d[i]]).map ent),.l (d.map ent),.i .i64 d.length,.i .i64 ((i:Int)+1)]=_:=abT d hd m (i+1) (acc++[d[i]]) (by omega) (by simp;omega)
  rw [List.append_assoc,List.singleton_append,← List.drop_eq_getElem_cons hlt] at ih
  generalize hL:(acc++d.drop i).map ent=L at ih ⊢
  simp only [List.map_append,List.map_cons,List.map_nil] at ih
  have h:((i:Int) < d.length):=by omega
  have hw:=wrap64 (n:=(i:Int)+1) (by omega) (by omega)
  have he:GV.g [GV.s d[i].1,GV.s d[i].2]=ent d[i]:=rfl
  have hok:(ent d[i]).fD 2=true:=rfl
  have hb:2 * (acc.length+1) * 32≤281474976710656∧acc.length+1≤281474976710656:=by omega
  refine au rfl rfl ?_
  simp -implicitDefEqProofs [h,hlt,he,hok,hb,hw,ih]
theorem aeo (d:List dh) (hd:d.length≤40):TT.lim 87 [.l (d.map ent)]=some [.l (d.map ent)]:=by
 have k:TT.lim 88 [.l [],.l (d.map ent),.i .i64 d.length,.i .i64 0]=_:=abT d hd d.length 0 [] (by omega) rfl
 rw [List.drop_zero,List.nil_append] at k
 refine aH rfl rfl ?_ rfl
 simp -implicitDefEqProofs [k]
theorem abS (l:List Row) (hl:l.length≤300) (hf:iC l):∀ (m i:Nat) (acc:List Row),i+m=l.length→acc.length=i→TT.lim 90 [.l (acc.map row),.l (l.map row),.i .i64 l.length,.i .i64 i]=some [.i .i64 0,.l ((acc++l.drop i).map row)]
 | 0,i,acc,hi,ha=>by
  have h0:l.drop i=[]:=List.drop_eq_nil_of_le (by omega)
  have h:¬ ((i:Int) < l.length):=by omega
  refine au rfl rfl ?_
  simp -implicitDefEqProofs [h,h0]
 | m+1,i,acc,hi,ha=>by
  have hlt:i < l.length:=by omega
  have ih:TT.lim 90 [.l ((acc++[l[i]]).map row),.l (l.map row),.i .i64 l.length,.i .i64 ((i:Int)+1)]=_:=abS l hl hf m (i+1) (acc++[l[i]]) (by omega) (by simp;omega)
  rw [List.append_assoc,List.singleton_append,← List.drop_eq_getElem_cons hlt] at ih
  generalize hL:(acc++l.drop i).map row=L at ih ⊢
  simp only [List.map_append,List.map_cons,List.map_nil] at ih
  have k:=aeo l[i].1 (qy (hf _ (List.getElem_mem hlt)))
  have h:((i:Int) < l.length):=by omega
  have hw:=wrap64 (n:=(i:Int)+1) (by omega) (by omega)
  have he:GV.g [GV.l (l[i].1.map ent),GV.i .u64 l[i].2]=row l[i]:=rfl
  have hok:(row l[i]).fD 2=true:=rfl
  have hb:2 * (acc.length+1) * 32≤281474976710656∧acc.length+1≤281474976710656:=by omega
  refine au rfl rfl ?_
  simp -implicitDefEqProofs [h,hlt,k,he,hok,hb,hw,ih]
theorem aen (l:List Row) (hl:fB l):TT.lim 89 [.l (l.map row)]=some [.l (l.map row)]:=by
 have k:TT.lim 90 [.l [],.l (l.map row),.i .i64 l.length,.i .i64 0]=_:=abS l hl.len hl.few l.length 0 [] (by omega) rfl
 rw [List.drop_zero,List.nil_append] at k
 refine aH rfl rfl ?_ rfl
 simp -implicitDefEqProofs [k]
theorem FZ (s:Sn) (h:fB s.2):TT.lim 160 [sn s]=some [sn s]:=by
 have k:=aen s.2 h
 have e:GV.g [.i .u64 s.1,.l (s.2.map row)]=sn s:=rfl
 refine aH rfl rfl ?_ rfl
 simp -implicitDefEqProofs [k,e]
theorem apV (n:Nat):(n:Int).tmod 128=((n % 128:Nat):Int):=by rw [Int.tmod_eq_emod_of_nonneg (by omega)];omega
theorem apU (n:Nat):(n:Int).tdiv 128=((n / 128:Nat):Int):=by rw [Int.tdiv_eq_ediv_of_nonneg (by omega)];omega
theorem Us (n:Nat) (h:n < 256):jJ [.i .u8 (n:Int)]=some [UInt8.ofNat n]:=by
 have:=Nu [n] (by simpa using h)
 simpa [fK] using this
theorem add_one (s:List UInt8) (c:UInt8) (h:s.length≤1000000):dU .add (some (.s s)) (some (.s [c]))=some (.s (s++[c])):=by
 rw [Np,if_pos (by simp only [List.length_singleton];omega)]
theorem aoP (n a b q:Int) (s c r:List UInt8) (h':127 < n) (e1:n.tmod 128=a) (e2:n.tdiv 128=b) (w1:IntKind.u64.wrap (a+128)=a+128) (w2:IntKind.u8.wrap (a+128)=a+128) (w3:IntKind.u64.wrap b=b)
 (e3:jJ [.i .u8 (a+128)]=some c) (hb:dU .add (some (.s s)) (some (.s c))=some (.s (s++c))) (k:TT.lim 110 [.i .u64 b,.s (s++c)]=some [.i .i64 0,.i .u64 q,.s (s++(c++r))]) :
 TT.lim 110 [.i .u64 n,.s s]=some [.i .i64 0,.i .u64 q,.s (s++(c++r))]:=by
 refine au rfl rfl ?_
 simp -implicitDefEqProofs [-Np,h',e1,e2,w1,w2,w3,e3,hb,k]
theorem alv (n q:Int) (r c:List UInt8) (k:TT.lim 110 [.i .u64 n,.s []]=some [.i .i64 0,.i .u64 q,.s r]) (w:IntKind.u8.wrap q=q) (e:jJ [.i .u8 q]=some c) (hr:dU .add (some (.s r)) (some (.s c))=some (.s (r++c))) :
 TT.lim 109 [.i .u64 n]=some [.s (r++c)]:=by
 refine aH rfl rfl ?_ rfl
 simp -implicitDefEqProofs [-Np,k,w,e,hr]
theorem ajJ:∀n:Nat,n < 18446744073709551616→∃q r,q < 128∧r++[UInt8.ofNat q]=dK n∧∀s:List UInt8,s.length+(dK n).length≤1000→TT.lim 110 [.i .u64 n,.s s]=some [.i .i64 0,.i .u64 (q:Nat),.s (s++r)]:=by
 intro n
 induction n using Nat.strongRecOn with
 | _ n ih=>
  intro hn
  by_cases h:n < 128
  ·refine ⟨n,[],h,by rw [wK h,List.nil_append],fun s hs=>?_⟩
   have h':¬ (127:Int) < (n:Int):=by omega
   refine au rfl rfl ?_
   simp -implicitDefEqProofs [h']
  ·obtain ⟨q,r,h1,h2,h3⟩:=ih (n / 128) (by omega) (by omega)
   refine ⟨q,[UInt8.ofNat (n % 128+128)]++r,h1,by rw [yu h,← h2,List.append_assoc,List.singleton_append],fun s hs=>?_⟩
   rw [yu h,List.length_cons] at hs
   have k:=h3 (s++[UInt8.ofNat (n % 128+128)]) (by simp;omega)
   rw [List.append_assoc] at k
   have e3:=Us (n % 128+128) (by omega)
   rw [show ((n % 128+128:Nat):Int)=((n % 128:Nat):Int)+128 by omega] at e3
   exact aoP n _ _ q s _ r (by omega) (apV n) (apU n) (jI (by omega) (by omega)) (L9 (by omega) (by omega)) (jI (by omega) (by omega)) e3 (add_one s _ (by omega)) k
theorem zM (n:Nat) (hn:n < 18446744073709551616):TT.lim 109 [.i .u64 n]=some [.s (dK n)]:=by
 obtain ⟨q,r,h1,h2,h3⟩:=ajJ n hn
 have hl:=ou hn
 have k:=h3 [] (by simp;omega)
 rw [List.nil_append] at k
 rw [← h2]
 exact alv n q r _ k (L9 (by omega) (by omega)) (Us q (by omega)) (add_one r _ (by rw [← h2] at hl;simp at hl;omega))
theorem ag9 (x:dh) (h1:x.1.length≤140737488351232) (h2:x.2.length≤140737488351232):TT.lim 112 [ent x]=some [.s (fZ x)]:=by
 have k1:=zM x.1.length (by omega)
 have k2:=zM x.2.length (by omega)
 have l1:=ou (n:=x.1.length) (by omega)
 have l2:=ou (n:=x.2.length) (by omega)
 have w1:=jI (n:=(x.1.length:Int)) (by omega) (by omega)
 have w2:=jI (n:=(x.2.length:Int)) (by omega) (by omega)
 have c1:((dK x.1.length).length:Int)+(x.1.length:Int)≤9223372036854775807:=by omega
 have c2:((dK x.1.length).length:Int)+((x.1.length:Int)+((dK x.2.length).length:Int))≤9223372036854775807:=by omega
 have c3:((dK x.1.length).length:Int)+((x.1.length:Int)+(((dK x.2.length).length:Int)+(x.2.length:Int)))≤9223372036854775807:=by omega
 refine aH rfl rfl ?_ rfl
 simp -implicitDefEqProofs [w1,w2,k1,k2,c1,c2,c3,fZ,Int.add_assoc]
theorem abY (d:List dh) (hf:d.all ny=true) (hl:d.length≤40):∀ (m i:Nat) (acc:List UInt8),i+m=d.length→acc.length≤10+620 * i→
 TT.lim 111 [.s acc,.l (d.map ent),.i .i64 d.length,.i .i64 i]=some [.i .i64 0,.s (acc++(d.drop i).flatMap fZ)]
 | 0,i,acc,hi,ha=>by
  have h0:d.drop i=[]:=List.drop_eq_nil_of_le (by omega)
  refine au rfl rfl ?_
  have h:¬ ((i:Int) < d.length):=by omega
  simp -implicitDefEqProofs [h,h0]
 | m+1,i,acc,hi,ha=>by
  have hlt:i < d.length:=by omega
  have hx:=List.all_eq_true.1 hf d[i] (List.getElem_mem hlt)
  have hx1:=hx
  unfold ny at hx1
  simp only [decide_eq_true_iff] at hx1
  have hp:=ag9 d[i] (by omega) (by omega)
  have hpl:=NY hx
  have ih:TT.lim 111 [.s (acc++fZ d[i]),.l (d.map ent),.i .i64 d.length,.i .i64 ((i:Int)+1)]=_:=abY d hf hl m (i+1) (acc++fZ d[i]) (by omega) (by simp;omega)
  have hd:(d.drop i).flatMap fZ=fZ d[i]++(d.drop (i+1)).flatMap fZ:=by rw [List.drop_eq_getElem_cons hlt,List.flatMap_cons]
  rw [hd,← List.append_assoc]
  have h:((i:Int) < d.length):=by omega
  have hw:=wrap64 (n:=(i:Int)+1) (by omega) (by omega)
  have hb:(acc.length:Int)+((fZ d[i]).length:Int)≤9223372036854775807:=by omega
  have he:GV.g [GV.s d[i].1,GV.s d[i].2]=ent d[i]:=rfl
  refine au rfl rfl ?_
  simp -implicitDefEqProofs [h,hlt,he,hp,hb,hw,ih]
theorem rP (d:List dh) (hf:fM d=true):TT.lim 108 [.l (d.map ent)]=some [.s (aY d)]:=by
 unfold fM at hf
 rw [Bool.and_eq_true,decide_eq_true_iff] at hf
 have k:=zM d.length (by omega)
 have l1:=ou (n:=d.length) (by omega)
 have w1:=jI (n:=(d.length:Int)) (by omega) (by omega)
 have h11:TT.lim 111 [.s (dK d.length),.l (d.map ent),.i .i64 d.length,.i .i64 0]=_:=abY d hf.1 hf.2 d.length 0 (dK d.length) (by omega) (by omega)
 rw [List.drop_zero] at h11
 refine aH rfl rfl ?_ rfl
 unfold aY
 generalize d.flatMap fZ=F at *
 simp -implicitDefEqProofs [w1,k,h11]
theorem BI {d:List dh} (hf:fM d=true):(aY d).length≤30000:=by
 unfold fM at hf
 rw [Bool.and_eq_true,decide_eq_true_iff] at hf
 have l1:=ou (n:=d.length) (by omega)
 have:=Oi d hf.1
 unfold aY
 simp only [List.length_append];omega
theorem abG (a b:List UInt8) (ha:a.length≤140737488351232) (hb:b.length≤140737488351232):TT.lim 129 [.s a,.s b]=some [.b (Op.bytesLess a b)]:=by
 have k:=WS (a,[]) (b,[]) ⟨ha,by simp⟩ ⟨hb,by simp⟩
 have e1:GV.g [.s a,.s []]=ent (a,[]):=rfl
 have e2:GV.g [.s b,.s []]=ent (b,[]):=rfl
 have hc:decide (AP (a,[]) (b,[]) < 0)=Op.bytesLess a b:=by
  unfold AP
  cases h:Op.bytesLess a b with
  | true=>simp
  | false=>
   simp only [Bool.false_eq_true,if_false]
   rw [if_neg (by simp [Op.bytesLess])]
   split<;>rfl
 refine aH rfl rfl ?_ rfl
 simp -implicitDefEqProofs [e1,e2,k,hc]
theorem abU (t:List Row) (ht:Rows t) (hf:iC t) (h256:t.length≤256):∀m i:Nat,i+m=t.length→
 TT.lim 115 [.l (t.map row),.i .i64 t.length,.i .i64 i]=some (tagged (gW (if h:0 < i then (t[i - 1]?).map K else none) (t.drop i)))
 | 0,i,hi=>by
  have h0:t.drop i=[]:=List.drop_eq_nil_of_le (by omega)
  have h:¬ ((i:Int) < t.length):=by omega
  refine au rfl rfl ?_
  simp -implicitDefEqProofs [h,h0,gW,tagged]
 | m+1,i,hi=>by
  have hlt:i < t.length:=by omega
  have hr:=ht.2 t[i] (List.getElem_mem hlt)
  have fr:=hf t[i] (List.getElem_mem hlt)
  have k15:=adn t[i] hr.1
  have k6:=rP t[i].1 fr
  have hrow:GV.g [.l (t[i].1.map ent),.i .u64 t[i].2]=row t[i]:=rfl
  have ih:TT.lim 115 [.l (t.map row),.i .i64 t.length,.i .i64 ((i:Int)+1)]=_:=abU t ht hf h256 m (i+1) (by omega)
  have hpk:(if h:0 < i+1 then (t[i+1 - 1]?).map K else none)=some (K t[i]):=by simp [hlt]
  rw [hpk] at ih
  rw [List.drop_eq_getElem_cons hlt]
  have h:((i:Int) < t.length):=by omega
  have hw:=wrap64 (n:=(i:Int)+1) (by omega) (by omega)
  by_cases h1:kG t[i]=0
  rotate_left
  ·have hc:∀p,gW p (t[i]::t.drop (i+1))=kG t[i]:=fun p=>by unfold gW;rw [if_pos h1]
   rw [hc]
   have ht1:tagged (kG t[i])=[.i .i64 0,.i .i64 (kG t[i])]:=by unfold tagged;rw [if_neg h1]
   rw [ht1]
   refine au rfl rfl ?_
   simp -implicitDefEqProofs [-List.getElem_cons_drop,h,hlt,hrow,k15,h1]
  by_cases h0:i=0
  ·subst h0
   have hc:gW (if h:0 < 0 then (t[0 - 1]?).map K else none) (t[0]::t.drop (0+1))=gW (some (K t[0])) (t.drop (0+1)):=by
    conv=>lhs;unfold gW
    simp -implicitDefEqProofs [h1]
   rw [hc]
   generalize tagged (gW (some (K t[0])) (t.drop (0+1)))=out at *
   simp only [Int.natCast_zero,Int.zero_add] at hw ih
   have hn:(0:Int) < (t.length:Int):=by omega
   refine au rfl rfl ?_
   simp -implicitDefEqProofs [-List.getElem_cons_drop,h,hlt,hn,hrow,k15,h1,k6,hw,ih]
  ·have hi0:0 < i:=by omega
   have hi1:i - 1 < t.length:=by omega
   have OM:(0:Int) < (i:Int):=by omega
   have hw2:=wrap64 (n:=(i:Int) - 1) (by omega) (by omega)
   have ht2:((i:Int) - 1).toNat=i - 1:=by omega
   have hnl:(1:Int)≤(i:Int):=by omega
   have hge:(0:Int)≤(i:Int) - 1:=by omega
   have fp:=hf t[i - 1] (List.getElem_mem hi1)
   have k7:=rP t[i - 1].1 fp
   have kl:=abG (aY t[i - 1].1) (aY t[i].1) (by have:=BI fp;omega) (by have:=BI fr;omega)
   have hp:(if h:0 < i then (t[i - 1]?).map K else none)=some (K t[i - 1]):=by simp [hi0,hi1]
   rw [hp]
   have hc:gW (some (K t[i - 1])) (t[i]::t.drop (i+1))=if K t[i]=K t[i - 1] then 14 else if Op.bytesLess (K t[i]) (K t[i - 1])=true then 7 else gW (some (K t[i])) (t.drop (i+1)):=by
    conv=>lhs;unfold gW
    rw [if_neg (by simp [h1])]
   rw [hc]
   generalize gW (some (K t[i])) (t.drop (i+1))=out at *
   by_cases h2:aY t[i].1=aY t[i - 1].1
   ·rw [if_pos h2]
    have h2':(aY t[i - 1].1=aY t[i].1)=True:=eq_true h2.symm
    refine au rfl rfl ?_
    simp -implicitDefEqProofs [-List.getElem_cons_drop,h,hlt,hrow,k15,h1,k6,OM,hi0,hw2,ht2,hnl,hge,hi1,k7,h2',tagged]
   ·rw [if_neg h2]
    have h2':¬ aY t[i - 1].1=aY t[i].1:=fun e=>h2 e.symm
    by_cases h3:aY t[i].1 < aY t[i - 1].1
    ·rw [if_pos ((qV _ _).2 h3)]
     rw [(afj _ _).2 fun h=>List.lt_irrefl _ (List.lt_trans h h3)] at kl
     refine au rfl rfl ?_
     simp -implicitDefEqProofs [-List.getElem_cons_drop,h,hlt,hrow,k15,h1,k6,OM,hi0,hw2,ht2,hnl,hge,hi1,k7,h2',kl,tagged]
    ·rw [if_neg fun h=>h3 ((qV _ _).1 h)]
     have h4:aY t[i - 1].1 < aY t[i].1:=by
      rcases List.le_iff_lt_or_eq.1 (List.not_lt.1 h3) with h | h
      ·exact h
      ·exact absurd h h2'
     rw [(qV _ _).2 h4] at kl
     refine au rfl rfl ?_
     simp -implicitDefEqProofs [-List.getElem_cons_drop,h,hlt,hrow,k15,h1,k6,OM,hi0,hw2,ht2,hnl,hge,hi1,k7,h2',kl,hw,ih]
theorem Hq (t:List Row) (ht:Rows t) (hf:iC t):TT.lim 114 [.l (t.map row)]=some [.i .i64 (jK t)]:=by
 unfold jK
 by_cases h1:256 < t.length
 ·have h1':(256:Int) < (t.length:Int):=by omega
  refine aH rfl rfl ?_ rfl
  simp -implicitDefEqProofs [h1,h1']
 ·have h1':¬ (256:Int) < (t.length:Int):=by omega
  have h38:TT.lim 115 [.l (t.map row),.i .i64 t.length,.i .i64 0]=_:=abU t ht hf (by omega) t.length 0 (by omega)
  rw [List.drop_zero] at h38
  have hp:(if h:0 < 0 then (t[0 - 1]?).map K else none)=none:=rfl
  rw [hp] at h38
  refine aH rfl rfl ?_ rfl
  by_cases h2:gW none t=0
  ·simp only [tagged,h2,if_true] at h38
   simp -implicitDefEqProofs [h1,h1',h38,h2]
  ·simp only [tagged,h2,if_false] at h38
   simp -implicitDefEqProofs [h1,h1',h38,h2]
def tK (t:List Row) (k:List UInt8):Option Int:=(t.find? fun r=>decide (K r=k)).map (·.2)
theorem aeH:∀ (t:List Row) (k:List UInt8),val t k=(tK t k).getD 0
 | [],_=>rfl
 | r::t,k=>by
  unfold val tK
  rw [aeH t k]
  by_cases h:K r=k
  ·simp -implicitDefEqProofs [h]
  ·simp -implicitDefEqProofs [h,tK]
def Jg:Option Int→List GV
 | some n=>[.i .i64 0,.i .u64 n]
 | none=>[.i .i64 1]
theorem abZ (t:List Row) (d:List dh) (ht:t.length≤1000) (hf:iC t) (hd:fM d=true):∀m i:Nat,i+m=t.length→TT.lim 145 [.l (d.map ent),.l (t.map row),.i .i64 t.length,.i .i64 i]=some (Jg (tK (t.drop i) (aY d)))
 | 0,i,hi=>by
  have h0:t.drop i=[]:=List.drop_eq_nil_of_le (by omega)
  have h:¬ ((i:Int) < t.length):=by omega
  refine au rfl rfl ?_
  simp -implicitDefEqProofs [h,h0,tK,Jg]
 | m+1,i,hi=>by
  have hlt:i < t.length:=by omega
  have ih:TT.lim 145 [.l (d.map ent),.l (t.map row),.i .i64 t.length,.i .i64 ((i:Int)+1)]=_:=abZ t d ht hf hd m (i+1) (by omega)
  have k1:=rP t[i].1 (hf _ (List.getElem_mem hlt))
  have k2:=rP d hd
  have h:((i:Int) < t.length):=by omega
  have hw:=wrap64 (n:=(i:Int)+1) (by omega) (by omega)
  have hc:tK (t.drop i) (aY d)=if aY t[i].1=aY d then some t[i].2 else tK (t.drop (i+1)) (aY d):=by
   rw [List.drop_eq_getElem_cons hlt]
   unfold tK
   rw [List.find?_cons]
   by_cases e:aY t[i].1=aY d
   ·simp -implicitDefEqProofs [e]
   ·simp -implicitDefEqProofs [e]
  rw [hc]
  generalize tK (t.drop (i+1)) (aY d)=out at *
  refine au rfl rfl ?_
  by_cases e:aY t[i].1=aY d
  ·rw [if_pos e]
   have e':(aY t[i].1=aY d)=True:=eq_true e
   clear e
   simp -implicitDefEqProofs [h,hlt,k1,k2,e',Jg]
  ·rw [if_neg e]
   simp -implicitDefEqProofs [h,hlt,k1,k2,e,hw,ih]
theorem aa7 (t:List Row) (d:List dh) (ht:t.length≤1000) (hf:iC t) (hd:fM d=true):TT.lim 144 [.l (t.map row),.l (d.map ent)]=some [.i .u64 (val t (aY d))]:=by
 have k:TT.lim 145 [.l (d.map ent),.l (t.map row),.i .i64 t.length,.i .i64 0]=_:=abZ t d ht hf hd t.length 0 (by omega)
 rw [List.drop_zero] at k
 rw [aeH]
 refine aH rfl rfl ?_ rfl
 cases hg:tK t (aY d)<;>rw [hg] at k<;>simp only [Jg] at k<;>simp [k]
theorem ab6 (a b:List Row) (i:Nat) (ha:i < a.length) (hb:i < b.length) (hl:a[i].1.length=b[i].1.length) (OA:a[i].1.length≤40) (x3 x4 x5 x7 x8 x9:GV):∀m j:Nat,j+m=a[i].1.length→
 TT.lim 156 [.l (a.map row),.l (b.map row),.i .i64 i,x3,x4,x5,.i .i64 a[i].1.length,x7,x8,x9,.i .i64 j]=some (if a[i].1.drop j=b[i].1.drop j then [.i .i64 1] else [.i .i64 0])
 | 0,j,hj=>by
  have h0:a[i].1.drop j=[]:=List.drop_eq_nil_of_le (by omega)
  have h1:b[i].1.drop j=[]:=List.drop_eq_nil_of_le (by omega)
  have h:¬ ((j:Int) < a[i].1.length):=by omega
  refine au rfl rfl ?_
  simp -implicitDefEqProofs [h,h0,h1]
 | m+1,j,hj=>by
  have hla:j < a[i].1.length:=by omega
  have hlb:j < b[i].1.length:=by omega
  have ih:TT.lim 156 [.l (a.map row),.l (b.map row),.i .i64 i,x3,x4,x5,.i .i64 a[i].1.length,x7,x8,x9,.i .i64 ((j:Int)+1)]=_:=ab6 a b i ha hb hl OA x3 x4 x5 x7 x8 x9 m (j+1) (by omega)
  have h:((j:Int) < a[i].1.length):=by omega
  have hw:=wrap64 (n:=(j:Int)+1) (by omega) (by omega)
  have ke:=H9 a[i].1[j] b[i].1[j]
  have hc:(a[i].1.drop j=b[i].1.drop j)=(a[i].1[j]=b[i].1[j]∧a[i].1.drop (j+1)=b[i].1.drop (j+1)):=by
   rw [List.drop_eq_getElem_cons hla,List.drop_eq_getElem_cons hlb,List.cons.injEq]
  simp only [hc]
  by_cases e:a[i].1[j]=b[i].1[j]
  ·have e':(a[i].1[j]=b[i].1[j])=True:=eq_true e
   rw [decide_eq_true e] at ke
   clear e hc
   simp only [e',true_and]
   refine au rfl rfl ?_
   simp -implicitDefEqProofs [h,ha,hb,hla,hlb,ke,hw,ih]
  ·rw [decide_eq_false e] at ke
   rw [if_neg fun h=>e h.1]
   clear hc
   refine au rfl rfl ?_
   simp -implicitDefEqProofs [h,ha,hb,hla,hlb,ke]
theorem ab5 (a b:List Row) (hl:a.length=b.length) (hal:a.length≤1000) (fa:iC a):∀m i:Nat,i+m=a.length→
 TT.lim 155 [.l (a.map row),.l (b.map row),.i .i64 a.length,.i .i64 i]=some (if a.drop i=b.drop i then [.i .i64 1] else [.i .i64 0])
 | 0,i,hi=>by
  have h0:a.drop i=[]:=List.drop_eq_nil_of_le (by omega)
  have h1:b.drop i=[]:=List.drop_eq_nil_of_le (by omega)
  have h:¬ ((i:Int) < a.length):=by omega
  refine au rfl rfl ?_
  simp -implicitDefEqProofs [h,h0,h1]
 | m+1,i,hi=>by
  have hla:i < a.length:=by omega
  have hlb:i < b.length:=by omega
  have ih:TT.lim 155 [.l (a.map row),.l (b.map row),.i .i64 a.length,.i .i64 ((i:Int)+1)]=_:=ab5 a b hl hal fa m (i+1) (by omega)
  have h:((i:Int) < a.length):=by omega
  have hw:=wrap64 (n:=(i:Int)+1) (by omega) (by omega)
  have OA:=qy (fa _ (List.getElem_mem hla))
  have hc:(a.drop i=b.drop i)=(a[i]=b[i]∧a.drop (i+1)=b.drop (i+1)):=by
   rw [List.drop_eq_getElem_cons hla,List.drop_eq_getElem_cons hlb,List.cons.injEq]
  simp only [hc]
  have hpe:(a[i]=b[i])=(a[i].1=b[i].1∧a[i].2=b[i].2):=propext Prod.ext_iff
  clear hc
  by_cases e2:a[i].2=b[i].2
  rotate_left
  ·rw [if_neg fun h=>e2 (by rw [h.1])]
   clear hpe
   refine au rfl rfl ?_
   simp -implicitDefEqProofs [h,hla,hlb,e2]
  by_cases e3:a[i].1.length=b[i].1.length
  rotate_left
  ·rw [if_neg fun h=>e3 (by rw [h.1])]
   have e2':(a[i].2=b[i].2)=True:=eq_true e2
   clear hpe e2
   have e3':¬ (a[i].1.length:Int)=(b[i].1.length:Int):=by omega
   refine au rfl rfl ?_
   simp -implicitDefEqProofs [h,hla,hlb,e2',e3,e3']
  have k:=ab6 a b i hla hlb e3 OA (.i .i64 a.length) (row a[i]) (.l (a[i].1.map ent)) (row b[i]) (.l (b[i].1.map ent)) (.i .i64 b[i].1.length) a[i].1.length 0 (by omega)
  rw [List.drop_zero,List.drop_zero] at k
  simp only [Int.natCast_zero] at k
  have e2':(a[i].2=b[i].2)=True:=eq_true e2
  have e3':((a[i].1.length:Int)=(b[i].1.length:Int))=True:=eq_true (by omega)
  have aah:(a[i].1.length=b[i].1.length)=True:=eq_true e3
  by_cases e1:a[i].1=b[i].1
  ·rw [if_pos e1] at k
   have hc2:(a[i]=b[i])=True:=eq_true (Prod.ext e1 e2)
   simp only [hc2,true_and]
   clear hpe e2 e3 e1 hc2
   refine au rfl rfl ?_
   simp -implicitDefEqProofs [h,hla,hlb,e2',e3',aah,k,hw,ih]
  ·rw [if_neg e1] at k
   rw [if_neg fun h=>e1 (by rw [h.1])]
   clear hpe e2 e3
   refine au rfl rfl ?_
   simp -implicitDefEqProofs [h,hla,hlb,e2',e3',aah,k]
theorem adS (a b:List Row) (hal:a.length≤1000) (fa:iC a):TT.lim 154 [.l (a.map row),.l (b.map row)]=some [.b (decide (a=b))]:=by
 by_cases hl:a.length=b.length
 ·have k:TT.lim 155 [.l (a.map row),.l (b.map row),.i .i64 a.length,.i .i64 0]=_:=ab5 a b hl hal fa a.length 0 (by omega)
  rw [List.drop_zero,List.drop_zero] at k
  have hl':((a.length:Int)=(b.length:Int))=True:=eq_true (by omega)
  have hl'':(a.length=b.length)=True:=eq_true hl
  clear hl
  by_cases e:a=b
  ·rw [if_pos e] at k
   rw [decide_eq_true e]
   clear e
   refine aH rfl rfl ?_ rfl
   simp -implicitDefEqProofs [hl',hl'',k]
  ·rw [if_neg e] at k
   rw [decide_eq_false e]
   refine aH rfl rfl ?_ rfl
   simp -implicitDefEqProofs [hl',hl'',k]
 ·rw [decide_eq_false fun e=>hl (by rw [e])]
  have hl':¬ (a.length:Int)=(b.length:Int):=by omega
  refine aH rfl rfl ?_ rfl
  simp -implicitDefEqProofs [hl,hl']
theorem anp (x y:Sn) (hx:fB x.2):TT.lim 161 [sn x,sn y]=some [.b (decide (x.1=y.1)&&decide (x.2=y.2))]:=by
 have k:=adS x.2 y.2 (by have:=hx.len;omega) hx.few
 refine aH rfl rfl ?_ rfl
 by_cases h1:x.1=y.1
 ·have h1':(x.1=y.1)=True:=eq_true h1
  clear h1
  simp -implicitDefEqProofs [h1',k]
 ·simp -implicitDefEqProofs [h1]
theorem FM (x:Sn) (hx:fB x.2):TT.lim 161 [sn x,sn x]=some [.b true]:=by
 have k:=anp x x hx
 simpa using k
theorem afH (d:Dl) (h:fB d.2.2):TT.lim 141 [dl d]=some [.i .i64 (qX d)]:=by
 have k:=Hq d.2.2 h.rows h.few
 unfold qX
 refine aH rfl rfl ?_ rfl
 by_cases h1:d.2.1≤d.1
 ·simp -implicitDefEqProofs [h1]
 ·simp -implicitDefEqProofs [h1,k]
def Fe (o:List Row) (i:Nat) (r:Row) (x y z:GV):List GV:=match o[i]? with
 | some s=>[.i .i64 0,.i .i64 i,row s,.l (s.1.map ent),.s (aY s.1),.s (aY r.1)]
 | none=>[.i .i64 1,.i .i64 i]
theorem ab4 (o:List Row) (ho:o.length≤1000) (hf:iC o) (r:Row) (fr:fM r.1=true) (x y z:GV):∀m i:Nat,i+m=o.length→
 TT.lim 150 [.l (o.map row),.i .i64 i,x,y,z,.l (r.1.map ent),.i .u64 r.2]=some (Fe o (i+iD (K r) (o.drop i)) r x y z)
 | 0,i,hi=>by
  have h0:o.drop i=[]:=List.drop_eq_nil_of_le (by omega)
  have h1:o[i]? = none:=List.getElem?_eq_none (by omega)
  have h:¬ ((i:Int) < o.length):=by omega
  refine au rfl rfl ?_
  simp -implicitDefEqProofs [h,h0,iD,Fe,h1]
 | m+1,i,hi=>by
  have hlt:i < o.length:=by omega
  have ih:TT.lim 150 [.l (o.map row),.i .i64 ((i:Int)+1),x,y,z,.l (r.1.map ent),.i .u64 r.2]=_:=ab4 o ho hf r fr x y z m (i+1) (by omega)
  have fo:=hf _ (List.getElem_mem hlt)
  have k6:=rP o[i].1 fo
  have k7:=rP r.1 fr
  have kl:=abG (aY o[i].1) (aY r.1) (by have:=BI fo;omega) (by have:=BI fr;omega)
  have hd:iD (K r) (o.drop i)=if Op.bytesLess (K o[i]) (K r)=true then iD (K r) (o.drop (i+1))+1 else 0:=by rw [List.drop_eq_getElem_cons hlt];rfl
  have h:((i:Int) < o.length):=by omega
  have hw:=wrap64 (n:=(i:Int)+1) (by omega) (by omega)
  rw [hd]
  cases hb:Op.bytesLess (K o[i]) (K r) with
  | true=>
   rw [show Op.bytesLess (aY o[i].1) (aY r.1)=true from hb] at kl
   rw [if_pos rfl,show i+(iD (K r) (o.drop (i+1))+1)=i+1+iD (K r) (o.drop (i+1)) by omega]
   refine au rfl rfl ?_
   simp -implicitDefEqProofs [h,hlt,k6,k7,kl,hw,ih]
  | false=>
   rw [show Op.bytesLess (aY o[i].1) (aY r.1)=false from hb] at kl
   have h1:o[i]? = some o[i]:=List.getElem?_eq_getElem hlt
   rw [if_neg (by simp),Nat.add_zero]
   refine au rfl rfl ?_
   simp -implicitDefEqProofs [h,hlt,k6,k7,kl,Fe]
def jT (o:List Row) (r:Row):List Row:=o.take (iD (K r) o)++r::o.drop (iD (K r) o)
def ER (o:List Row) (r:Row):Option (List Row):=match o[iD (K r) o]? with
 | some s=>if K s=K r then none else some (jT o r)
 | none=>some (jT o r)
def zq:List Row→List Row→Option (List Row)
 | o,[]=>some o
 | o,r::l=>(ER o r).bind fun o'=>zq o' l
def Jh (l:List Row):Option (List Row)→List GV
 | some t=>[.i .i64 1,.l (t.map row)]
 | none=>[.i .i64 0]
theorem ajN (l:List Row) (i:Nat) (h:i≤l.length):EX 2 (some (.l (l.map row))) (some (.i .i64 0)) (some (.i .i64 i))=some (.l ((l.take i).map row)):=by
 rw [rV,if_pos ⟨by omega,by omega,by simpa using h,by simp [QZ]⟩]
 simp -implicitDefEqProofs [List.map_take]
theorem ajM (l:List Row) (i:Nat) (h:i≤l.length):EX 2 (some (.l (l.map row))) (some (.i .i64 i)) (some (.i .i64 l.length))=some (.l ((l.drop i).map row)):=by
 rw [rV,if_pos ⟨by omega,by omega,by simp,by simp [QZ]⟩]
 have:List.take l.length (l.map row)=l.map row:=List.take_of_length_le (by simp)
 simp -implicitDefEqProofs [this,List.map_drop]
theorem akK (l:List Row):(l.map row).all (GV.fD 2)=true:=by
 rw [List.all_eq_true];intro x hx;obtain ⟨r,_,rfl⟩:=List.mem_map.1 hx;rfl
theorem MV (a b:List Row) (h:a.length+b.length≤2000):DT 2 32 (some (.l (a.map row))) (some (.l (b.map row)))=some (.l ((a++b).map row)):=by
 rw [DU,if_pos ⟨akK b,by simp;omega,by simp;omega⟩,List.map_append]
theorem ae5 (a:List Row) (h:a.length≤2000):DT 2 32 (some (.l [])) (some (.l (a.map row)))=some (.l (a.map row)):=MV [] a (by simpa using h)
theorem MS (a:List Row) (r:Row) (h:a.length≤1900):DT 2 32 (some (.l (a.map row))) (some (.l [row r]))=some (.l ((a++[r]).map row)):=MV a [r] (by simp;omega)
theorem alA (o:List Row) (r:Row):o.take (iD (K r) o)++[r]++o.drop (iD (K r) o)=jT o r:=by unfold jT;simp
theorem alB (o:List Row) (r:Row):(jT o r).length=o.length+1:=by
 have:=MN (K r) o
 unfold jT;simp;omega
theorem QO {o:List Row} {r x:Row}:x∈jT o r↔x=r∨x∈o:=by
 unfold jT
 constructor
 ·intro h
  rcases List.mem_append.1 h with h | h
  ·exact .inr (List.mem_of_mem_take h)
  ·rcases List.mem_cons.1 h with h | h
   ·exact .inl h
   ·exact .inr (List.mem_of_mem_drop h)
 ·rintro (rfl | h)
  ·simp
  ·rw [← List.take_append_drop (iD (K r) o) o] at h
   rcases List.mem_append.1 h with h | h
   ·exact List.mem_append.2 (.inl h)
   ·exact List.mem_append.2 (.inr (List.mem_cons_of_mem _ h))
set_option maxHeartbeats 4000000 in
theorem ab3 (l:List Row) (hl:l.length≤300) (fl:iC l):∀ (m i:Nat) (o:List Row),i+m=l.length→o.length=i→iC o→
 TT.lim 149 [.l (o.map row),.l (l.map row),.i .i64 l.length,.i .i64 i]=some (Jh l (zq o (l.drop i)))
 | 0,i,o,hi,hoi,fo=>by
  have h0:l.drop i=[]:=List.drop_eq_nil_of_le (by omega)
  have h:¬ ((i:Int) < l.length):=by omega
  refine au rfl rfl ?_
  simp -implicitDefEqProofs [h,h0,zq,Jh]
 | m+1,i,o,hi,hoi,fo=>by
  have hlt:i < l.length:=by omega
  have fr:=fl _ (List.getElem_mem hlt)
  have BH:TT.lim 150 [.l (o.map row),.i .i64 0,.l (l.map row),.i .i64 l.length,.i .i64 i,.l (l[i].1.map ent),.i .u64 l[i].2]=_:=ab4 o (by omega) fo l[i] fr (.l (l.map row)) (.i .i64 l.length) (.i .i64 i) o.length 0 (by omega)
  rw [Nat.zero_add,List.drop_zero] at BH
  have ih:TT.lim 149 [.l ((jT o l[i]).map row),.l (l.map row),.i .i64 l.length,.i .i64 ((i:Int)+1)]=_:=ab3 l hl fl m (i+1) (jT o l[i]) (by omega) (by rw [alB];omega) (fun x hx=>by
   rcases QO.1 hx with rfl | hx
   ·exact fr
   ·exact fo x hx)
  have hal:=MN (K l[i]) o
  have hc:zq o (l.drop i)=(ER o l[i]).bind fun o'=>zq o' (l.drop (i+1)):=by rw [List.drop_eq_getElem_cons hlt];rfl
  rw [hc]
  have hrow:GV.g [GV.l (l[i].1.map ent),GV.i .u64 l[i].2]=row l[i]:=rfl
  have hpe:=alA o l[i]
  have s1:=ajN o (iD (K l[i]) o) hal
  have s2:=ajM o (iD (K l[i]) o) hal
  have a1:=ae5 (o.take (iD (K l[i]) o)) (by simp;omega)
  have a2:=MS (o.take (iD (K l[i]) o)) l[i] (by simp;omega)
  have a3:=MV (o.take (iD (K l[i]) o)++[l[i]]) (o.drop (iD (K l[i]) o)) (by simp;omega)
  rw [hpe] at a3
  have h:((i:Int) < l.length):=by omega
  have hw:=wrap64 (n:=(i:Int)+1) (by omega) (by omega)
  have hins:ER o l[i]=match o[iD (K l[i]) o]? with
   | some s=>if K s=K l[i] then none else some (jT o l[i])
   | none=>some (jT o l[i]):=rfl
  rw [hins]
  generalize jT o l[i]=p at *
  generalize hA:iD (K l[i]) o=A at *
  clear hpe hins
  generalize hT:(o.take A++[l[i]]).map row=T at *
  generalize hU:(o.take A).map row=U at *
  generalize hV:(o.drop A).map row=V at *
  by_cases hAl:A < o.length
  ·have h1:o[A]? = some o[A]:=List.getElem?_eq_getElem hAl
   have Iz:(A:Int) < (o.length:Int):=by omega
   have foA:=fo _ (List.getElem_mem hAl)
   have k6:=rP o[A].1 foA
   have k7:=rP l[i].1 fr
   simp only [Fe,h1] at BH
   simp only [h1]
   by_cases e:aY o[A].1=aY l[i].1
   ·have e':(aY o[A].1=aY l[i].1)=True:=eq_true e
    simp only [e',if_true]
    clear e
    refine au rfl rfl ?_
    simp -implicitDefEqProofs [h,hlt,BH,hAl,Iz,k6,k7,e',Jh]
   ·rw [if_neg e]
    simp only [Option.bind_some]
    refine au rfl rfl ?_
    simp -implicitDefEqProofs [-rV, -DU,h,hlt,BH,hAl,Iz,k6,k7,e,hrow,s1,s2,a1,a2,a3,hw,ih]
  ·have h1:o[A]? = none:=List.getElem?_eq_none (by omega)
   have Iz:¬ (A:Int) < (o.length:Int):=by omega
   simp only [Fe,h1] at BH
   simp only [h1,Option.bind_some]
   refine au rfl rfl ?_
   simp -implicitDefEqProofs [-rV, -DU,h,hlt,BH,hAl,Iz,hrow,s1,s2,a1,a2,a3,hw,ih]
theorem alz (x:Row) (o:List Row) (r:Row):jT (x::o) r=if Op.bytesLess (K x) (K r)=true then x::jT o r else r::x::o:=by
 have ha:iD (K r) (x::o)=if Op.bytesLess (K x) (K r)=true then iD (K r) o+1 else 0:=rfl
 unfold jT
 rw [ha]
 by_cases h:Op.bytesLess (K x) (K r)=true
 ·simp -implicitDefEqProofs [h]
 ·simp -implicitDefEqProofs [h]
theorem acT {r:Row}:∀ {o:List Row},iY o→(∀s∈o,K s≠K r)→iY (jT o r)
 | [],_,_=>by simp [jT,iD,iY]
 | x::o,ho,hk=>by
  have ho':=List.pairwise_cons.1 ho
  rw [alz]
  by_cases h:Op.bytesLess (K x) (K r)=true
  ·rw [if_pos h]
   refine List.Pairwise.cons (fun y hy=>?_) (acT ho'.2 fun s hs=>hk s (by simp [hs]))
   rcases QO.1 hy with rfl | hy
   ·exact (qV _ _).1 h
   ·exact ho'.1 y hy
  ·rw [if_neg h]
   have hlt:K r < K x:=by
    rcases List.le_iff_lt_or_eq.1 (List.not_lt.1 fun e=>h ((qV _ _).2 e)) with e | e
    ·exact e
    ·exact absurd e.symm (hk x (by simp))
   refine List.Pairwise.cons (fun y hy=>?_) ho
   rcases List.mem_cons.1 hy with rfl | hy
   ·exact hlt
   ·exact List.lt_trans hlt (ho'.1 y hy)
theorem alC (o:List Row) (r:Row):(jT o r).Perm (r::o):=by
 unfold jT
 refine List.perm_middle.trans ?_
 rw [List.take_append_drop]
theorem acF:∀ (l o:List Row),iY o→(∀r∈l,∀s∈o,K s≠K r)→(l.map K).Nodup→∃t,zq o l=some t∧iY t∧t.Perm (o++l)
 | [],o,ho,_,_=>⟨o,rfl,ho,by simp⟩
 | r::l,o,ho,hk,hn=>by
  rw [List.map_cons,List.nodup_cons] at hn
  have hi:ER o r=some (jT o r):=by
   unfold ER
   split
   ·next s hs=>rw [if_neg (hk r (by simp) s (List.mem_of_getElem? hs))]
   ·rfl
  obtain ⟨t,h1,h2,h3⟩:=acF l (jT o r) (acT ho (hk r (by simp))) (fun x hx s hs=>by
   rcases QO.1 hs with rfl | hs
   ·intro e;exact hn.1 (List.mem_map.2 ⟨x,hx,e.symm⟩)
   ·exact hk x (by simp [hx]) s hs) hn.2
  refine ⟨t,by unfold zq;rw [hi];exact h1,h2,h3.trans ?_⟩
  refine ((alC o r).append_right l).trans ?_
  simpa using (List.perm_middle (a:=r) (l₁:=o) (l₂:=l)).symm
theorem ab2 (l:List Row) (hl:l.length≤1000) (hc:∀r∈l,jW r.1∧kG r=0):∀m i:Nat,i+m=l.length→TT.lim 148 [.l (l.map row),.i .i64 l.length,.i .i64 i]=some [.i .i64 1]
 | 0,i,hi=>by
  have h:¬ ((i:Int) < l.length):=by omega
  refine au rfl rfl ?_
  simp -implicitDefEqProofs [h]
 | m+1,i,hi=>by
  have hlt:i < l.length:=by omega
  have hr:=hc _ (List.getElem_mem hlt)
  have k:=adn l[i] hr.1
  rw [hr.2] at k
  have hrow:GV.g [GV.l (l[i].1.map ent),GV.i .u64 l[i].2]=row l[i]:=rfl
  have ih:TT.lim 148 [.l (l.map row),.i .i64 l.length,.i .i64 ((i:Int)+1)]=_:=ab2 l hl hc m (i+1) (by omega)
  have h:((i:Int) < l.length):=by omega
  have hw:=wrap64 (n:=(i:Int)+1) (by omega) (by omega)
  refine au rfl rfl ?_
  simp -implicitDefEqProofs [h,hlt,hrow,k,hw,ih]
theorem akF (l:List Row) (hl:l.length≤1000) (fl:iC l) (hc:∀r∈l,jW r.1∧kG r=0) (hn:(l.map K).Nodup):∃t,iY t∧t.Perm l∧TT.lim 147 [.l (l.map row)]=some (if 256 < l.length then [.l [],.i .i64 13] else [.l (t.map row),.i .i64 0]):=by
 obtain ⟨t,h1,h2,h3⟩:=acF l [] List.Pairwise.nil (by simp) hn
 rw [List.nil_append] at h3
 refine ⟨t,h2,h3, ?_⟩
 by_cases h256:256 < l.length
 ·have h':(256:Int) < (l.length:Int):=by omega
  rw [if_pos h256]
  refine aH rfl rfl ?_ rfl
  simp -implicitDefEqProofs [h256,h']
 ·have h':¬ (256:Int) < (l.length:Int):=by omega
  rw [if_neg h256]
  have k1:TT.lim 148 [.l (l.map row),.i .i64 l.length,.i .i64 0]=_:=ab2 l hl hc l.length 0 (by omega)
  have k2:TT.lim 149 [.l [],.l (l.map row),.i .i64 l.length,.i .i64 0]=_:=ab3 l (by omega) fl l.length 0 [] (by omega) rfl (by intro r hr;simp at hr)
  rw [List.drop_zero,h1] at k2
  simp only [Jh] at k2
  refine aH rfl rfl ?_ rfl
  simp -implicitDefEqProofs [h256,h',k1,k2]
def oh (b:List Row):List Row→Option (List Row)
 | []=>some []
 | r::a=>if 18446744073709551616≤r.2+val b (K r) then none else (oh b a).map ((r.1,r.2+val b (K r))::·)
def vX (a b acc:List Row):Option (List Row)→List GV
 | some m=>[.i .i64 1,.l ((acc++m).map row)]
 | none=>[.i .i64 0]
theorem ab1 (a b:List Row) (ha:a.length≤300) (fa:iC a) (pa:Pos a) (hb:b.length≤300) (fb:iC b) (pb:Pos b):∀ (m i:Nat) (acc:List Row),i+m=a.length→acc.length=i→
 TT.lim 143 [.l (a.map row),.l (b.map row),.l (acc.map row),.i .i64 a.length,.i .i64 i]=some (vX a b acc (oh b (a.drop i)))
 | 0,i,acc,hi,hacc=>by
  have h0:a.drop i=[]:=List.drop_eq_nil_of_le (by omega)
  have h:¬ ((i:Int) < a.length):=by omega
  refine au rfl rfl ?_
  simp -implicitDefEqProofs [h,h0,oh,vX]
 | m+1,i,acc,hi,hacc=>by
  have hlt:i < a.length:=by omega
  have k:=aa7 b a[i].1 (by omega) fb (fa _ (List.getElem_mem hlt))
  have pr:=pa _ (List.getElem_mem hlt)
  have pv:=LW pb (aY a[i].1)
  have ih:∀v,TT.lim 143 [.l (a.map row),.l (b.map row),.l ((acc++[(a[i].1,v)]).map row),.i .i64 a.length,.i .i64 ((i:Int)+1)]=_:=fun v=>ab1 a b ha fa pa hb fb pb m (i+1) (acc++[(a[i].1,v)]) (by omega) (by simp;omega)
  have hc:oh b (a.drop i)=if 18446744073709551616≤a[i].2+val b (aY a[i].1) then none else (oh b (a.drop (i+1))).map ((a[i].1,a[i].2+val b (aY a[i].1))::·):=by rw [List.drop_eq_getElem_cons hlt];rfl
  rw [hc]
  clear hc
  have ih':=ih (a[i].2+val b (aY a[i].1))
  clear ih
  have hap:=MS acc (a[i].1,a[i].2+val b (aY a[i].1)) (by omega)
  generalize val b (aY a[i].1)=v at *
  have h:((i:Int) < a.length):=by omega
  have hw:=wrap64 (n:=(i:Int)+1) (by omega) (by omega)
  have w1:=jI (n:=18446744073709551615 - v) (by omega) (by omega)
  have hrow:GV.g [GV.l (a[i].1.map ent),GV.i .u64 (a[i].2+v)]=row (a[i].1,a[i].2+v):=rfl
  by_cases e:18446744073709551616≤a[i].2+v
  ·rw [if_pos e]
   have e':18446744073709551615 - v < a[i].2:=by omega
   refine au rfl rfl ?_
   simp -implicitDefEqProofs [h,hlt,k,w1,e',vX]
  ·rw [if_neg e]
   have e':¬ 18446744073709551615 - v < a[i].2:=by omega
   have w2:=jI (n:=a[i].2+v) (by omega) (by omega)
   have eo:vX a b (acc++[(a[i].1,a[i].2+v)]) (oh b (a.drop (i+1)))=vX a b acc ((oh b (a.drop (i+1))).map ((a[i].1,a[i].2+v)::·)):=by cases oh b (a.drop (i+1))<;>simp [vX]
   rw [eo] at ih'
   generalize vX a b acc ((oh b (a.drop (i+1))).map ((a[i].1,a[i].2+v)::·))=out at *
   generalize hP:(acc++[(a[i].1,a[i].2+v)]).map row=Pp at *
   refine au rfl rfl ?_
   simp -implicitDefEqProofs [-DU,h,hlt,k,w1,e',w2,hrow,hap,hw,ih']
def l7 (a:List Row) (b:List Row):List Row:=b.filter fun r=>decide (val a (K r)=0)
theorem Po (a b:List Row) (ha:a.length≤300) (fa:iC a) (hb:b.length≤300) (fb:iC b):∀ (m i:Nat) (acc:List Row),i+m=b.length→acc.length≤300+i→
 TT.lim 146 [.l (a.map row),.l (acc.map row),.l (b.map row),.i .i64 b.length,.i .i64 i]=some [.i .i64 0,.l ((acc++l7 a (b.drop i)).map row)]
 | 0,i,acc,hi,hacc=>by
  have h0:b.drop i=[]:=List.drop_eq_nil_of_le (by omega)
  have h:¬ ((i:Int) < b.length):=by omega
  refine au rfl rfl ?_
  simp -implicitDefEqProofs [h,h0,l7]
 | m+1,i,acc,hi,hacc=>by
  have hlt:i < b.length:=by omega
  have k:=aa7 a b[i].1 (by omega) fa (fb _ (List.getElem_mem hlt))
  have h:((i:Int) < b.length):=by omega
  have hw:=wrap64 (n:=(i:Int)+1) (by omega) (by omega)
  have hrow:GV.g [GV.l (b[i].1.map ent),GV.i .u64 b[i].2]=row b[i]:=rfl
  have hc:l7 a (b.drop i)=if val a (aY b[i].1)=0 then b[i]::l7 a (b.drop (i+1)) else l7 a (b.drop (i+1)):=by
   rw [List.drop_eq_getElem_cons hlt]
   unfold l7
   rw [List.filter_cons]
   by_cases e:val a (aY b[i].1)=0
   ·simp -implicitDefEqProofs [e]
   ·simp -implicitDefEqProofs [e]
  rw [hc]
  clear hc
  by_cases e:val a (aY b[i].1)=0
  ·have ih:TT.lim 146 [.l (a.map row),.l ((acc++[b[i]]).map row),.l (b.map row),.i .i64 b.length,.i .i64 ((i:Int)+1)]=_:=Po a b ha fa hb fb m (i+1) (acc++[b[i]]) (by omega) (by simp;omega)
   have hap:=MS acc b[i] (by omega)
   rw [if_pos e]
   rw [List.append_assoc,List.singleton_append] at ih
   rw [e] at k
   clear e
   generalize hL:(acc++b[i]::l7 a (b.drop (i+1))).map row=L at *
   generalize hP:(acc++[b[i]]).map row=Pp at *
   refine au rfl rfl ?_
   simp -implicitDefEqProofs [-DU,h,hlt,k,hrow,hap,hw,ih]
  ·have ih:TT.lim 146 [.l (a.map row),.l (acc.map row),.l (b.map row),.i .i64 b.length,.i .i64 ((i:Int)+1)]=_:=Po a b ha fa hb fb m (i+1) acc (by omega) (by omega)
   rw [if_neg e]
   generalize hL:(acc++l7 a (b.drop (i+1))).map row=L at *
   generalize val a (aY b[i].1)=v at *
   refine au rfl rfl ?_
   simp -implicitDefEqProofs [h,hlt,k,e,hw,ih]
theorem aee {b:List Row}:∀a:List Row,iY a→Pos a→oh b a=none→∃k,18446744073709551616≤val a k+val b k
 | [],_,_,h=>by simp [oh] at h
 | r::a,ha,pa,h=>by
  have ha':=List.pairwise_cons.1 ha
  have hv:∀k,val (r::a) k=if K r=k then r.2 else val a k:=fun _=>rfl
  unfold oh at h
  split at h
  ·next e=>exact ⟨K r,by rw [hv,if_pos rfl];exact e⟩
  ·obtain ⟨k,hk⟩:=aee a ha'.2 (fun x hx=>pa x (by simp [hx])) (Option.map_eq_none_iff.1 h)
   refine ⟨k, ?_⟩
   rw [hv]
   by_cases e:K r=k
   ·rw [if_pos e]
    subst e
    rw [Ae ha'.1] at hk
    have:=pa r (by simp)
    omega
   ·rw [if_neg e];exact hk
theorem aef {b:List Row}:∀ (a:List Row) {m:List Row},oh b a=some m→m.map K=a.map K∧(∀x∈m,∃r∈a,r.1=x.1∧x.2=r.2+val b (K r)∧x.2 < 18446744073709551616)∧(∀r∈a,(r.1,r.2+val b (K r))∈m∧r.2+val b (K r) < 18446744073709551616)
 | [],m,h=>by simp [oh] at h;subst h;simp
 | r::a,m,h=>by
  unfold oh at h
  split at h
  ·cases h
  next e=>
  obtain ⟨m',h',rfl⟩:=Option.map_eq_some_iff.1 h
  obtain ⟨h1,h2,h3⟩:=aef a h'
  refine ⟨by simp [h1],fun x hx=>?_,fun x hx=>?_⟩
  ·rcases List.mem_cons.1 hx with rfl | hx
   ·exact ⟨r,by simp,rfl,rfl,by simp only;omega⟩
   ·obtain ⟨y,hy,e⟩:=h2 x hx;exact ⟨y,by simp [hy],e⟩
  ·rcases List.mem_cons.1 hx with rfl | hx
   ·exact ⟨by simp,by omega⟩
   ·obtain ⟨e1,e2⟩:=h3 x hx
    exact ⟨by simp [e1],e2⟩
theorem aoR (a b:List Row) (ta:Tb a) (tb:Tb b):TT.lim 142 [.l (a.map row),.l (b.map row)]=some [.l ((tog a b).1.map row),.i .i64 (tog a b).2]:=by
 have la:=ta.ok.1
 have lb:=tb.ok.1
 have k1:TT.lim 143 [.l (a.map row),.l (b.map row),.l [],.i .i64 a.length,.i .i64 0]=_:=ab1 a b (by omega) ta.few ta.pos (by omega) tb.few tb.pos a.length 0 [] (by omega) rfl
 rw [List.drop_zero] at k1
 cases hs:oh b a with
 | none=>
  rw [hs] at k1
  have ht:tog a b=([],3):=by
   unfold tog
   cases hm:dP a b with
   | none=>rfl
   | some m=>
    exfalso
    obtain ⟨k,hk⟩:=aee a ta.rise ta.pos hs
    obtain ⟨_,q2,_,q4⟩:=PI a b ta.rise tb.rise ta.pos tb.pos hm
    have:=LW q4 k
    rw [q2] at this;omega
  rw [ht]
  refine aH rfl rfl ?_ rfl
  simp -implicitDefEqProofs [k1,vX]
 | some m=>
  rw [hs] at k1
  simp only [vX,List.nil_append] at k1
  obtain ⟨m1,m2,m3⟩:=aef a hs
  have hml:m.length=a.length:=by simpa using congrArg List.length m1
  have k2:TT.lim 146 [.l (a.map row),.l (m.map row),.l (b.map row),.i .i64 b.length,.i .i64 0]=_:=Po a b (by omega) ta.few (by omega) tb.few b.length 0 m (by omega) (by omega)
  rw [List.drop_zero] at k2
  have rest:∀x∈l7 a b,x∈b∧val a (K x)=0:=fun x hx=>by
   unfold l7 at hx
   have:=List.mem_filter.1 hx
   simpa using this
  have src:∀x∈m++l7 a b,(∃r,(r∈a∨r∈b)∧r.1=x.1)∧0 < x.2∧x.2 < 18446744073709551616:=by
   intro x hx
   rcases List.mem_append.1 hx with hx | hx
   ·obtain ⟨r,hr,e1,e2,e3⟩:=m2 x hx
    have h1:=ta.pos r hr
    have h2:=LW tb.pos (K r)
    exact ⟨⟨r,.inl hr,e1⟩,by omega,by omega⟩
   ·have h1:=rest x hx
    have h2:=tb.pos x h1.1
    exact ⟨⟨x,.inr h1.1,rfl⟩,h2⟩
  have few:iC (m++l7 a b):=fun x hx=>by
   obtain ⟨⟨r,hr,e⟩,_⟩:=src x hx
   rw [← e];rcases hr with hr | hr
   ·exact ta.few r hr
   ·exact tb.few r hr
  have chk:∀x∈m++l7 a b,jW x.1∧kG x=0:=fun x hx=>by
   obtain ⟨⟨r,hr,e⟩,h1,_⟩:=src x hx
   rcases hr with hr | hr
   ·exact ⟨by rw [← e];exact (ta.rows.2 r hr).1,(xU x).2 ⟨by rw [← e];exact ((xU r).1 (ta.ok.2.2 r hr)).1,by omega⟩⟩
   ·exact ⟨by rw [← e];exact (tb.rows.2 r hr).1,(xU x).2 ⟨by rw [← e];exact ((xU r).1 (tb.ok.2.2 r hr)).1,by omega⟩⟩
  have nodup:((m++l7 a b).map K).Nodup:=by
   rw [List.map_append,List.nodup_append]
   refine ⟨by rw [m1];exact adf ta.rise, ?_, ?_⟩
   ·exact (adf tb.rise).sublist ((List.filter_sublist).map K)
   ·intro x hx y hy e
    subst e
    obtain ⟨r,hr,e1⟩:=List.mem_map.1 (by rw [m1] at hx;exact hx)
    obtain ⟨s,hs',e2⟩:=List.mem_map.1 hy
    have h1:=(rest s hs').2
    rw [e2,← e1,Dx ta.rise r hr] at h1
    have:=ta.pos r hr
    omega
  have hl:(m++l7 a b).length≤1000:=by
   have:(l7 a b).length≤b.length:=List.length_filter_le _ _
   simp;omega
  obtain ⟨t,t1,t2,t3⟩:=akF (m++l7 a b) hl few chk nodup
  have tp:Pos t:=fun x hx=>(src x (t2.mem_iff.1 hx)).2
  have tv:∀k,val t k=val a k+val b k:=by
   intro k
   rcases Gf a k with ⟨r,c1,c2,c3⟩ | ⟨c1,c2⟩
   ·have hmem:(r.1,r.2+val b (K r))∈t:=t2.mem_iff.2 (List.mem_append.2 (.inl (m3 r c1).1))
    have:=Dx t1 _ hmem
    rw [c3,← c2];exact this
   ·rw [c2,Int.zero_add]
    rcases Gf b k with ⟨s,d1,d2,d3⟩ | ⟨d1,d2⟩
    ·have hmem:s∈t:=t2.mem_iff.2 (List.mem_append.2 (.inr (List.mem_filter.2 ⟨d1,by rw [decide_eq_true_iff,d2];exact c2⟩)))
     have:=Dx t1 _ hmem
     rw [← d2,this,Dx tb.rise s d1]
    ·rw [d2]
     refine Gg fun x hx e=>?_
     obtain ⟨⟨r,hr,e1⟩,_⟩:=src x (t2.mem_iff.1 hx)
     have e2:K r=k:=by show aY r.1=k;rw [e1];exact e
     rcases hr with hr | hr
     ·exact c1 r hr e2
     ·exact d1 r hr e2
  have ht:tog a b=if 256 < (m++l7 a b).length then ([],13) else (t,0):=by
   unfold tog
   cases hm:dP a b with
   | none=>
    exfalso
    obtain ⟨k,hk⟩:=akp a b ta.rise tb.rise hm
    have:=LW tp k
    rw [tv] at this;omega
   | some m'=>
    obtain ⟨q1,q2,_,q4⟩:=PI a b ta.rise tb.rise ta.pos tb.pos hm
    have:m'=t:=aqD q1 t1 q4 tp fun k=>by rw [q2,tv]
    rw [this]
    simp only [t2.length_eq]
  rw [ht]
  generalize hA:m++l7 a b=A at *
  by_cases h256:256 < A.length
  ·rw [if_pos h256] at t3 ⊢
   refine aH rfl rfl ?_ rfl
   simp -implicitDefEqProofs [k1,k2,t3]
  ·rw [if_neg h256] at t3 ⊢
   refine aH rfl rfl ?_ rfl
   simp -implicitDefEqProofs [k1,k2,t3]
theorem ae8 (s:Sn) (d:Dl) (hs:fB s.2) (hd:fB d.2.2):TT.lim 140 [sn s,dl d]=some [sn (jv s d).1,.i .i64 (jv s d).2]:=by
 have k1:=Hq s.2 hs.rows hs.few
 have k2:=afH d hd
 have e2:GV.g [.i .u64 d.1,.i .u64 d.2.1,.l (d.2.2.map row)]=dl d:=rfl
 have e3:GV.g [.i .u64 0,.l []]=sn zS:=rfl
 have e4:GV.g [.i .u64 d.2.1,.l ((tog s.2 d.2.2).1.map row)]=sn (d.2.1,(tog s.2 d.2.2).1):=rfl
 unfold jv
 by_cases h1:jK s.2=0
 rotate_left
 ·refine aH rfl rfl ?_ rfl
  simp -implicitDefEqProofs [k1,h1,e3]
 by_cases h2:qX d=0
 rotate_left
 ·refine aH rfl rfl ?_ rfl
  simp -implicitDefEqProofs [k1,h1,e2,k2,h2,e3]
 by_cases h3:s.1=d.1
 rotate_left
 ·refine aH rfl rfl ?_ rfl
  simp -implicitDefEqProofs [k1,h1,e2,k2,h2,e3,h3]
 have k3:=aoR s.2 d.2.2 (hs.tb ((Em _).1 h1)) (hd.tb (WM h2).2)
 have h3':(s.1=d.1)=True:=eq_true h3
 clear h3
 by_cases h4:(tog s.2 d.2.2).2=0
 rotate_left
 ·refine aH rfl rfl ?_ rfl
  simp -implicitDefEqProofs [k1,h1,e2,k2,h2,e3,h3',k3,h4]
 ·refine aH rfl rfl ?_ rfl
  simp -implicitDefEqProofs [k1,h1,e2,k2,h2,e4,h3',k3,h4]
def common:List UInt8→List UInt8→Nat
 | a::x,b::y=>if a=b then common x y+1 else 0
 | _,_=>0
theorem Hy:∀a b:List UInt8,common a b≤a.length∧common a b≤b.length
 | [],b=>by simp [common]
 | _::_,[]=>by simp [common]
 | a::x,b::y=>by
  unfold common
  have:=Hy x y
  split
  ·simp only [List.length_cons];omega
  ·omega
theorem ac4 (a b:List UInt8) (ha:a.length≤140737488351232) (hb:b.length≤140737488351232):∀m i:Nat,i+m=a.length→
 TT.lim 134 [.s a,.s b,.i .i64 i]=some (if common (a.drop i) (b.drop i) < a.length - i∧common (a.drop i) (b.drop i) < b.length - i then [.i .i64 0,.i .i64 ((i+common (a.drop i) (b.drop i):Nat):Int)] else [.i .i64 1])
 | 0,i,hi=>by
  have h0:a.drop i=[]:=List.drop_eq_nil_of_le (by omega)
  have h:¬ ((i:Int) < a.length):=by omega
  have h2:¬ (common ([]:List UInt8) (b.drop i) < a.length - i∧common [] (b.drop i) < b.length - i):=by omega
  rw [h0,if_neg h2]
  refine au rfl rfl ?_
  simp -implicitDefEqProofs [h]
 | m+1,i,hi=>by
  have hlt:i < a.length:=by omega
  have h:((i:Int) < a.length):=by omega
  by_cases hlb:i < b.length
  rotate_left
  ·have h1:¬ ((i:Int) < b.length):=by omega
   rw [if_neg (by omega)]
   refine au rfl rfl ?_
   simp -implicitDefEqProofs [h,h1]
  have hb1:((i:Int) < b.length):=by omega
  have ih:TT.lim 134 [.s a,.s b,.i .i64 ((i:Int)+1)]=_:=ac4 a b ha hb m (i+1) (by omega)
  have hw:=wrap64 (n:=(i:Int)+1) (by omega) (by omega)
  have hc:common (a.drop i) (b.drop i)=if a[i]=b[i] then common (a.drop (i+1)) (b.drop (i+1))+1 else 0:=by
   rw [List.drop_eq_getElem_cons hlt,List.drop_eq_getElem_cons hlb];rfl
  rw [hc]
  by_cases e:a[i]=b[i]
  ·rw [if_pos e]
   have e':((a[i].toNat:Int)=(b[i].toNat:Int))=True:=eq_true (by rw [e])
   have e2:((i+(common (a.drop (i+1)) (b.drop (i+1))+1):Nat):Int)=((i+1+common (a.drop (i+1)) (b.drop (i+1)):Nat):Int):=by omega
   have e3:(common (a.drop (i+1)) (b.drop (i+1))+1 < a.length - i∧common (a.drop (i+1)) (b.drop (i+1))+1 < b.length - i)=(common (a.drop (i+1)) (b.drop (i+1)) < a.length - (i+1)∧common (a.drop (i+1)) (b.drop (i+1)) < b.length - (i+1)):=by
    apply propext;omega
   rw [e2]
   simp only [e3]
   refine au rfl rfl ?_
   simp -implicitDefEqProofs [-Int.natCast_add,h,hlt,hlb,hb1,e',hw,ih]
  ·rw [if_neg e]
   have e':¬ (a[i].toNat:Int)=(b[i].toNat:Int):=fun h=>e (UInt8.toNat_inj.1 (by omega))
   rw [if_pos (by omega)]
   refine au rfl rfl ?_
   simp -implicitDefEqProofs [h,hlt,hlb,hb1,e']
theorem alK (a b:List UInt8) (ha:a.length≤140737488351232) (hb:b.length≤140737488351232):TT.lim 133 [.s a,.s b]=some [.i .i64 (common a b)]:=by
 have k:TT.lim 134 [.s a,.s b,.i .i64 0]=_:=ac4 a b ha hb a.length 0 (by omega)
 rw [List.drop_zero,List.drop_zero,Nat.zero_add,Nat.sub_zero,Nat.sub_zero] at k
 have hl:=Hy a b
 refine aH rfl rfl ?_ rfl
 by_cases hc:common a b < a.length∧common a b < b.length
 ·rw [if_pos hc] at k
  simp -implicitDefEqProofs [k]
 ·rw [if_neg hc] at k
  by_cases h2:(b.length:Int) < a.length
  ·have:(common a b:Int)=b.length:=by omega
   simp -implicitDefEqProofs [k,h2,this]
  ·have:(common a b:Int)=a.length:=by omega
   simp -implicitDefEqProofs [k,h2,this]
/-- A text behind another one, as it is written. -/
def xQ (a s:List UInt8):List UInt8:=dK (common a s)++dK (s.length - common a s)++s.drop (common a s)
theorem acK (a s:List UInt8) (hs:s.length≤100000000):(xQ a s).length≤20+s.length:=by
 have hl:=Hy a s
 have l1:=ou (n:=common a s) (by omega)
 have l2:=ou (n:=s.length - common a s) (by omega)
 unfold xQ
 simp only [List.length_append,List.length_drop]
 omega
theorem adl (a s:List UInt8) (ha:a.length≤100000000) (hs:s.length≤100000000):TT.lim 132 [.s a,.s s]=some [.s (xQ a s)]:=by
 have k:=alK a s (by omega) (by omega)
 have hl:=Hy a s
 have p1:=zM (common a s) (by omega)
 have p2:=zM (s.length - common a s) (by omega)
 have l1:=ou (n:=common a s) (by omega)
 have l2:=ou (n:=s.length - common a s) (by omega)
 have w1:=jI (n:=(common a s:Int)) (by omega) (by omega)
 have w2:=jI (n:=(s.length:Int) - (common a s:Int)) (by omega) (by omega)
 have w3:=wrap64 (n:=(s.length:Int) - (common a s:Int)) (by omega) (by omega)
 have e2:(s.length:Int) - (common a s:Int)=((s.length - common a s:Nat):Int):=by omega
 rw [e2] at w2 w3
 refine aH rfl rfl ?_ rfl
 unfold xQ
 generalize common a s=c at *
 have h1:((dK c).length:Int)+((dK (s.length - c)).length:Int)≤9223372036854775807:=by omega
 have h2:((dK c).length:Int)+((dK (s.length - c)).length:Int)+((s.length:Int) - (c:Int))≤9223372036854775807:=by omega
 have h3:(c:Int)≤s.length:=by omega
 have h4:((s.length - c:Nat):Int)=(s.length:Int) - c:=by omega
 have hd:(s.take s.length).drop c=s.drop c:=by rw [List.take_length]
 rw [← e2] at w2 w3
 rw [← e2] at p2
 simp -implicitDefEqProofs [k,p1,p2,w1,w2,w3,h1,h2,h3,h4,hd]
def zU:List UInt8→List Row→List UInt8
 | _,[]=>[]
 | a,r::t=>xQ a (aY r.1)++(dK r.2.toNat++zU (aY r.1) t)
/-- A table, as it is written. -/
def Qg (t:List Row):List UInt8:=dK t.length++zU [] t
def Jl (t:List Row):List UInt8×Int:=if jK t≠0 then ([],jK t) else (Qg t,0)
theorem alX (L:List GV) (n:Int) (D:List dh) (N:Int) (k O V acc:List UInt8) (R:List GV) (h:0 < n) (hg:L[0]? = some (row (D,N))) (k1:TT.lim 108 [.l (D.map ent)]=some [.s k]) (k2:TT.lim 132 [.s [],.s k]=some [.s O])
 (k3:TT.lim 109 [.i .u64 N]=some [.s V]) (hb1:(acc.length:Int)+(O.length:Int)≤9223372036854775807) (hb2:(acc.length:Int)+(O.length:Int)+(V.length:Int)≤9223372036854775807)
 (ih:TT.lim 131 [.l L,.s (acc++(O++V)),.i .i64 n,.i .i64 1]=some R) :
 TT.lim 131 [.l L,.s acc,.i .i64 n,.i .i64 0]=some R:=by
 have w1:=wrap64 (n:=1) (by omega) (by omega)
 refine au rfl rfl ?_
 simp -implicitDefEqProofs [h,hg,w1,k1,k2,k3,hb1,hb2,ih]
theorem alW (L:List GV) (n i:Int) (D E:List dh) (N M:Int) (k k' O V acc:List UInt8) (R:List GV) (j:Nat) (hi:i=(j:Int)+1) (h:i < n) (h0:(0:Int) < i) (hg:L[j+1]? = some (row (D,N))) (hg':L[j]? = some (row (E,M))) (hw:IntKind.i64.wrap (i+1)=i+1) (hw2:IntKind.i64.wrap (i - 1)=i - 1) (hn1:(i - 1).toNat=j) (hn2:i.toNat=j+1) (hn0:(0:Int)≤i - 1) (hn3:(1:Int)≤i) (hn4:(0:Int)≤i)
 (k1:TT.lim 108 [.l (D.map ent)]=some [.s k]) (k1':TT.lim 108 [.l (E.map ent)]=some [.s k']) (k2:TT.lim 132 [.s k',.s k]=some [.s O])
 (k3:TT.lim 109 [.i .u64 N]=some [.s V]) (hb1:(acc.length:Int)+(O.length:Int)≤9223372036854775807) (hb2:(acc.length:Int)+(O.length:Int)+(V.length:Int)≤9223372036854775807)
 (ih:TT.lim 131 [.l L,.s (acc++(O++V)),.i .i64 n,.i .i64 (i+1)]=some R) :
 TT.lim 131 [.l L,.s acc,.i .i64 n,.i .i64 i]=some R:=by
 clear hi
 refine au rfl rfl ?_
 simp -implicitDefEqProofs [h,h0,hg,hg',hw,hw2,hn0,hn1,hn2,hn3,hn4,k1,k1',k2,k3,hb1,hb2,ih]
theorem adg (l:List Row) (hl:l.length≤1000) (hf:∀r∈l,fM r.1=true∧0≤r.2∧r.2 < 18446744073709551616):∀ (m i:Nat) (acc:List UInt8),i+m=l.length→acc.length≤10+40000 * i→
 TT.lim 131 [.l (l.map row),.s acc,.i .i64 l.length,.i .i64 i]=some [.i .i64 0,.s (acc++zU (if 0 < i then ((l[i - 1]?).map K).getD [] else []) (l.drop i))]
 | 0,i,acc,hi,hacc=>by
  have hd:l.drop i=[]:=List.drop_eq_nil_of_le (by omega)
  have h:¬ ((i:Int) < l.length):=by omega
  rw [hd]
  refine au rfl rfl ?_
  simp -implicitDefEqProofs [h,zU]
 | m+1,i,acc,hi,hacc=>by
  have hlt:i < l.length:=by omega
  obtain ⟨h1,h2,h3⟩:=hf l[i] (List.getElem_mem hlt)
  have hk:=BI h1
  have k1:=rP l[i].1 h1
  have k3:=zM l[i].2.toNat (by omega)
  rw [show ((l[i].2.toNat:Nat):Int)=l[i].2 by omega] at k3
  have hv:=ou (n:=l[i].2.toNat) (by omega)
  have he:∀a,acc++zU a (l.drop i)=acc++(xQ a (aY l[i].1)++dK l[i].2.toNat)++zU (aY l[i].1) (l.drop (i+1)):=by
   intro a
   rw [List.drop_eq_getElem_cons hlt];simp [zU]
  have ih:=fun a (ha:(xQ a (aY l[i].1)).length≤20+(aY l[i].1).length)=>adg l hl hf m (i+1) (acc++(xQ a (aY l[i].1)++dK l[i].2.toNat)) (by omega) (by simp only [List.length_append];omega)
  have hpr:(if 0 < i+1 then ((l[i+1 - 1]?).map K).getD [] else [])=aY l[i].1:=by simp [hlt]
  rw [hpr,show ((i+1:Nat):Int)=(i:Int)+1 by omega] at ih
  by_cases h0:i=0
  ·subst h0
   rw [if_neg (by omega),he]
   have k2:=adl [] (aY l[0].1) (by simp) (by omega)
   have ho:=acK [] (aY l[0].1) (by omega)
   exact alX _ _ l[0].1 l[0].2 _ _ _ acc _ (by omega) (by simp [hlt]) k1 k2 k3 (by omega) (by omega) (ih [] ho)
  ·obtain ⟨j,rfl⟩:∃j,i=j+1:=⟨i - 1,by omega⟩
   have hj:j < l.length:=by omega
   obtain ⟨g1,_,_⟩:=hf l[j] (List.getElem_mem hj)
   have k1':=rP l[j].1 g1
   have hkj:=BI g1
   rw [if_pos (by omega),show ((l[j+1 - 1]?).map K).getD []=aY l[j].1 by simp [hj],he]
   have k2:=adl (aY l[j].1) (aY l[j+1].1) (by omega) (by omega)
   have ho:=acK (aY l[j].1) (aY l[j+1].1) (by omega)
   exact alW _ _ _ l[j+1].1 l[j].1 l[j+1].2 l[j].2 _ _ _ _ acc _ j (by omega) (by omega) (by omega) (by simp [hlt]) (by simp [hj]) (wrap64 (by omega) (by omega)) (wrap64 (by omega) (by omega)) (by omega) (by omega) (by omega) (by omega) (by omega) k1 k1' k2 k3 (by omega) (by omega) (ih _ ho)
theorem alV (t:List Row) (ht:Rows t) (hf:iC t):TT.lim 113 [.l (t.map row)]=some [.s (Jl t).1,.i .i64 (Jl t).2]:=by
 have k1:=Hq t ht hf
 unfold Jl
 by_cases hc:jK t=0
 rotate_left
 ·rw [if_pos hc]
  refine aH rfl rfl ?_ (by rfl)
  simp -implicitDefEqProofs [k1,hc]
 rw [if_neg (fun e=>e hc)]
 rw [hc] at k1
 have h256:=((Em t).1 hc).1
 have hff:∀r∈t,fM r.1=true∧0≤r.2∧r.2 < 18446744073709551616:=fun r hr=>⟨hf r hr,(ht.2 r hr).2.1,(ht.2 r hr).2.2⟩
 have k2:=zM t.length (by omega)
 have l2:=ou (n:=t.length) (by omega)
 have k3:=adg t (by omega) hff t.length 0 (dK t.length) (by omega) (by omega)
 rw [List.drop_zero,if_neg (by omega),show ((0:Nat):Int)=0 from rfl] at k3
 have hk3:TT.lim 131 [.l (t.map row),.s (dK t.length),.i .i64 t.length,.i .i64 0]=some [.i .i64 0,.s (Qg t)]:=k3
 have w:=jI (n:=(t.length:Int)) (by omega) (by omega)
 have hlm:(t.map row).length=t.length:=by simp
 generalize Qg t=P at *
 generalize dK t.length=V at *
 generalize t.map row=L at *
 have kt:TT.lim 130 [.l L]=some [.s P]:=by
  refine aH rfl rfl ?_ rfl
  simp -implicitDefEqProofs [hlm,w,k2,hk3]
 refine aH rfl rfl ?_ rfl
 simp -implicitDefEqProofs [k1,kt]
structure Aj (t:List Row):Prop where
 ok:Ok t
 few:iC t
 rows:Rows t
theorem Aj.tb {t:List Row} (h:Aj t):jK t=0:=(Em t).2 h.ok
theorem Aj.len {t:List Row} (h:Aj t):t.length≤256:=h.ok.1
theorem Aj.good {t:List Row} (h:Aj t):fB t:=⟨Nat.le_trans h.len (by decide),h.few,h.rows⟩
end J
end Go.Proofs.YtlifdeocdbjalaaGreatDoor
