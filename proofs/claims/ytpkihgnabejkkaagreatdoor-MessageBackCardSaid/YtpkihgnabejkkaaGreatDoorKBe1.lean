/- What the trees compute: plain laws. -/
import Derived.Test.YtpkihgnabejkkaaGreatDoorKBT
import Derived.Test.YtpkihgnabejkkaaGreatDoorAbsPl
import Derived.Test.YtpkihgnabejkkaaGreatDoorAbsGo
import Derived.Lib.TrimUEq
import Derived.Lib.MapLaws
namespace Go.Proofs.YtpkihgnabejkkaaGreatDoor
open Go Go.aJ
set_option linter.unusedSimpArgs false
set_option linter.unusedVariables false
set_option maxRecDepth 100000
namespace B
theorem FN:∀a b:List UInt8,Op.bytesLess a b=decide (a < b)
 | _,[]=>by simp [Op.bytesLess]
 | [],_::_=>by simp [Op.bytesLess]
 | a::x,b::y=>by
  rw [Op.bytesLess,FN x y,Bool.eq_iff_iff]
  simp -implicitDefEqProofs [List.cons_lt_cons_iff]
/-- An entry: key and value. A row: its entries and its number. -/
abbrev bV:=List UInt8×List UInt8
abbrev Row:=List bV×Int
def ent (x:bV):GV:=.g [.s x.1,.s x.2]
def row (r:Row):GV:=.g [.l (r.1.map ent),.i .u64 r.2]
@[simp] theorem an4 (x:bV):(ent x).cells=[.s x.1,.s x.2]:=rfl
@[simp] theorem apu (r:Row):(row r).cells=[.l (r.1.map ent),.i .u64 r.2]:=rfl
@[simp] theorem an5 (x:bV):(ent x).scalar=false:=rfl
@[simp] theorem apv (r:Row):(row r).scalar=false:=rfl
/-- Texts and lists of no more than any machine bears. -/
def rM (d:List bV):Prop:=d.length≤140737488351232∧∀x∈d,x.1.length≤140737488351232∧x.2.length≤140737488351232
def Rows (l:List Row):Prop:=l.length≤140737488351232∧∀r∈l,rM r.1∧0≤r.2∧r.2 < 18446744073709551616
def nG (x:bV):Bool:=decide (x.1.length+x.2.length≤600)
theorem ZI (d:List bV) (hd:rM d):∀m i:Nat,i+m=d.length→TT.lim 4 [.l (d.map ent),.i .i64 d.length,.i .i64 i]=some (if (d.drop i).all nG=true then [.i .i64 1] else [.i .i64 0])
 | 0,i,hi=>by
  have h0:d.drop i=[]:=List.drop_eq_nil_of_le (by omega)
  refine ay rfl rfl ?_
  have h:¬ ((i:Int) < d.length):=by omega
  simp -implicitDefEqProofs [h,h0]
 | m+1,i,hi=>by
  have hlt:i < d.length:=by omega
  have ih:TT.lim 4 [.l (d.map ent),.i .i64 d.length,.i .i64 ((i:Int)+1)]=_:=ZI d hd m (i+1) (by omega)
  refine ay rfl rfl ?_
  have h:((i:Int) < d.length):=by omega
  have hw:=wrap64 (n:=(i:Int)+1) (by omega) (by have:=hd.1;omega)
  have hx:=hd.2 d[i] (List.getElem_mem hlt)
  have hw2:=wrap64 (n:=(d[i].1.length:Int)+(d[i].2.length:Int)) (by omega) (by omega)
  have hda:(d.drop i).all nG=(nG d[i]&&(d.drop (i+1)).all nG):=by rw [List.drop_eq_getElem_cons hlt,List.all_cons]
  by_cases hf:(600:Int) < (d[i].1.length:Int)+(d[i].2.length:Int)
  ·have:nG d[i]=false:=by unfold nG;simp;omega
   simp -implicitDefEqProofs [h,hlt,hw2,hf,hda,this]
  ·have:nG d[i]=true:=by unfold nG;simp;omega
   rw [hda,this,Bool.true_and]
   simp -implicitDefEqProofs [h,hlt,hw,hw2,hf,ih]
def kE (d:List bV):Bool:=d.all nG&&decide (d.length≤40)
theorem YA (d:List bV) (hd:rM d):TT.lim 3 [.l (d.map ent)]=some [.b (kE d)]:=by
 refine aA rfl rfl ?_ rfl
 have h5:TT.lim 4 [.l (d.map ent),.i .i64 d.length,.i .i64 0]=_:=ZI d hd d.length 0 (by omega)
 rw [List.drop_zero] at h5
 cases hc:d.all nG with
 | false=>rw [hc] at h5;simp [h5,kE,hc]
 | true=>
  rw [hc] at h5;simp only [if_true] at h5
  have:(decide ((d.length:Int)≤40))=decide (d.length≤40):=by rw [Bool.eq_iff_iff];simp;omega
  simp -implicitDefEqProofs [h5,kE,hc,this]
def gJ (n:Nat):List UInt8:=if n < 128 then [UInt8.ofNat n] else UInt8.ofNat (n % 128+128)::gJ (n / 128)
termination_by n
decreasing_by omega
theorem EO {n:Nat} (h:n < 128):gJ n=[UInt8.ofNat n]:=by rw [gJ,if_pos h]
theorem PW {n:Nat} (h:¬ n < 128):gJ n=UInt8.ofNat (n % 128+128)::gJ (n / 128):=by rw [gJ,if_neg h]
def lu (n:Nat):Nat:=(gJ n).length
theorem aln {n:Int} (h0:0≤n):n.fdiv (2 ^ (7:Nat))=n / 128:=by
 rw [Int.fdiv_eq_ediv_of_nonneg _ (by decide)];rfl
theorem abz {n:Nat}:mW .shr .u64 (n:Int) 7=some (.i .u64 ((n / 128:Nat):Int)):=by
 have:((n:Int)).fdiv (2 ^ (7:Nat))=((n / 128:Nat):Int):=by rw [aln (by omega)];omega
 simp -implicitDefEqProofs [mW,IntKind.bits]
 exact this
theorem JY (n:Nat):0 < lu n:=by unfold lu;rw [gJ];split<;>simp
theorem JX {n:Nat} (h:¬ n < 128):lu n=lu (n / 128)+1:=by unfold lu;rw [PW h];rfl
theorem aco:∀ (k n:Nat),0 < k→n < 128 ^ k→lu n≤k
 | 0,_,h,_=>by omega
 | k+1,n,_,h=>by
  by_cases hn:n < 128
  ·unfold lu;rw [EO hn];simp
  ·rw [JX hn]
   cases k with
   | zero=>simp at h;omega
   | succ k=>
    have:n / 128 < 128 ^ (k+1):=by rw [Nat.pow_succ] at h;omega
    have:=aco (k+1) (n / 128) (by omega) this
    omega
theorem PZ {n:Nat} (h:n < 18446744073709551616):lu n≤10:=aco 10 n (by omega) (by omega)
theorem ag8:∀ (n s:Nat),s+lu n≤1000→n < 18446744073709551616→TT.lim 10 [.i .u64 n,.i .i64 s]=some [.i .i64 0,.i .i64 ((s+lu n - 1:Nat):Int)]:=by
 intro n
 induction n using Nat.strongRecOn with
 | _ n ih=>
  intro s hs hn
  refine ay rfl rfl ?_
  by_cases h:n < 128
  ·have h':¬ (128:Int)≤n:=by omega
   simp -implicitDefEqProofs [h',lu,EO h]
  ·have h':(128:Int)≤n:=by omega
   have hv:=JX h
   have hp:=JY (n / 128)
   have hw:=wrap64 (n:=(s:Int)+1) (by omega) (by omega)
   have ih':TT.lim 10 [.i .u64 ((n / 128:Nat):Int),.i .i64 ((s:Int)+1)]=_:=ih (n / 128) (by omega) (s+1) (by omega) (by omega)
   have hn':s+lu n - 1=s+1+lu (n / 128) - 1:=by omega
   rw [hn']
   have h7:mW .shr .u64 (n:Int) 7=some (.i .u64 ((n / 128:Nat):Int)):=abz
   generalize ((n / 128:Nat):Int)=q at h7 ih'
   simp -implicitDefEqProofs [h',hw,h7,ih']
theorem alo (n:Nat) (hn:n < 18446744073709551616):TT.lim 9 [.i .u64 n]=some [.i .i64 (lu n)]:=by
 have hp:=JY n
 have h9:TT.lim 10 [.i .u64 n,.i .i64 1]=_:=ag8 n 1 (by have:=PZ hn;omega) hn
 rw [show 1+lu n - 1=lu n by omega] at h9
 refine aA rfl rfl ?_ rfl
 simp -implicitDefEqProofs [h9]
/-- The bytes of a number, each with its high bit set. -/
def iO:Nat→Nat→List Nat
 | 0,_=>[]
 | k+1,n=>(n % 128+128)::iO k (n / 128)
def gu (n:Nat):GV:=.i .u8 n
theorem acH (n:Nat) (hn:n < 18446744073709551616):fF .and .u64 (n:Int) 127=some (.i .u64 ((n % 128:Nat):Int)):=by
 have h1:((BitVec.ofInt 64 (n:Int) &&& BitVec.ofInt 64 127).toNat:Nat)=n % 128:=by
  rw [BitVec.toNat_and,BitVec.toNat_ofInt,BitVec.toNat_ofInt]
  have e1:((n:Int) % ((2 ^ 64:Nat):Int)).toNat=n:=by omega
  have e2:((127:Int) % ((2 ^ 64:Nat):Int)).toNat=2 ^ 7 - 1:=by decide
  rw [e1,e2,Nat.and_two_pow_sub_one_eq_mod]
 show some (GV.i .u64 (IntKind.u64.wrap (((BitVec.ofInt 64 (n:Int) &&& BitVec.ofInt 64 127).toNat:Nat):Int)))=_
 rw [h1,gK (by omega) (by omega)]
theorem Qo (n:Nat) (hn:n < 256):fF .and .u8 (n:Int) 127=some (.i .u8 ((n % 128:Nat):Int)):=by
 have:∀x:Fin 256,IntKind.u8.wrap (((BitVec.ofInt IntKind.u8.bits ((x.val:Nat):Int) &&& BitVec.ofInt IntKind.u8.bits 127).toNat:Nat):Int)=((x.val % 128:Nat):Int):=by decide +kernel
 show some (GV.i .u8 _)=some (GV.i .u8 _)
 exact congrArg (fun z=>some (GV.i .u8 z)) (this ⟨n,hn⟩)
theorem ah6 (n:Nat) (hn:n < 128):fF .or .u8 (n:Int) 128=some (.i .u8 ((n+128:Nat):Int)):=by
 have:∀x:Fin 128,IntKind.u8.wrap (((BitVec.ofInt IntKind.u8.bits ((x.val:Nat):Int) ||| BitVec.ofInt IntKind.u8.bits 128).toNat:Nat):Int)=((x.val+128:Nat):Int):=by decide +kernel
 show some (GV.i .u8 _)=some (GV.i .u8 _)
 exact congrArg (fun z=>some (GV.i .u8 z)) (this ⟨n,hn⟩)
theorem acs {n:Int} (h0:0≤n) (h1:n < 256):IntKind.u8.wrap n=n:=by
 have:IntKind.u8.wrap n=n % 256:=by simp [IntKind.wrap,IntKind.signed,IntKind.bits]
 rw [this];omega
@[simp] theorem anS (n:Nat):(gu n).cells=[gu n]:=rfl
@[simp] theorem anU (n:Nat):(gu n).scalar=true:=rfl
@[simp] theorem anT (n:Nat) (v:GV):(gu n).put 0 [v]=some v:=rfl
theorem Rw:∀l:List Nat,(∀x∈l,x < 256)→lF (l.map gu)=some (l.map UInt8.ofNat)
 | [],_=>rfl
 | a::l,h=>by
  have h1:=h a (by simp)
  have h2:=Rw l fun x hx=>h x (by simp [hx])
  simp only [List.map_cons,gu,lF] at h2 ⊢
  rw [if_pos (by omega)]
  have:(fun n:Nat=>GV.i .u8 (n:Int))=gu:=rfl
  rw [h2]
  simp
theorem ZC:∀ (m n:Nat) (done:List Nat),n < 18446744073709551616→done.length+m < 1000→
 TT.lim 11 [.i .u64 n,.l ((done++List.replicate m 0).map gu),.i .i64 ((done.length+m:Nat):Int),.i .i64 done.length]=some [.i .i64 0,.l ((done++iO m n).map gu)]
 | 0,n,done,hn,hd=>by
  refine ay rfl rfl ?_
  simp -implicitDefEqProofs [iO]
 | m+1,n,done,hn,hd=>by
  have hlt:(done.length:Int) < ((done.length+(m+1):Nat):Int):=by omega
  have hw:=wrap64 (n:=(done.length:Int)+1) (by omega) (by omega)
  have hw8:=acs (n:=((n % 128:Nat):Int)) (by omega) (by omega)
  have h7:mW .shr .u64 (n:Int) 7=some (.i .u64 ((n / 128:Nat):Int)):=abz
  have ha:=acH n hn
  have ho:=ah6 (n % 128) (by omega)
  have ih:=ZC m (n / 128) (done++[n % 128+128]) (by omega) (by simp;omega)
  have hlen:(done++[n % 128+128]).length+m=done.length+(m+1):=by simp;omega
  rw [hlen] at ih
  have hl2:(((done++[n % 128+128]).length:Nat):Int)=(done.length:Int)+1:=by simp
  rw [hl2] at ih
  have hset:((done++List.replicate (m+1) 0).map gu).set done.length (gu (n % 128+128))=(done++[n % 128+128]++List.replicate m 0).map gu:=by
   rw [List.replicate_succ,← List.map_set,List.set_append_right _ _ (Nat.le_refl _),Nat.sub_self]
   simp
  have hget:((done++List.replicate (m+1) 0).map gu)[done.length]? = some (gu 0):=by
   rw [List.getElem?_map,List.getElem?_append_right (Nat.le_refl _),Nat.sub_self,List.replicate_succ];rfl
  have hll:((done++List.replicate (m+1) 0).map gu).length=done.length+(m+1):=by simp
  have hv:done++iO (m+1) n=done++[n % 128+128]++iO m (n / 128):=by simp [iO]
  rw [hv]
  generalize hL:(done++List.replicate (m+1) 0).map gu=L at *
  refine ay rfl rfl ?_
  have hix:(0:Int)≤(done.length:Int)∧(done.length:Int) < (L.length:Int):=by rw [hll];omega
  have hob:GV.i IntKind.u8 ((n % 128+128:Nat):Int)=gu (n % 128+128):=rfl
  have MN:L.set done.length (GV.i IntKind.u8 ((n % 128+128:Nat):Int))=(done++[n % 128+128]++List.replicate m 0).map gu:=hset
  generalize (done++[n % 128+128]++List.replicate m 0).map gu=L2 at ih MN
  generalize (done++[n % 128+128]++iO m (n / 128)).map gu=L3 at ih ⊢
  generalize ((n / 128:Nat):Int)=q at h7 ih
  generalize ((n % 128+128:Nat):Int)=z at ho MN
  generalize ((n % 128:Nat):Int)=rr at ha hw8 ho
  generalize ((done.length+(m+1):Nat):Int)=N at hlt ih ⊢
  simp -implicitDefEqProofs [hlt,ha,hw8,ho,hix,hget,h7,hw,MN,ih]
theorem PX:∀m n,(iO m n).length=m
 | 0,_=>rfl
 | m+1,n=>by simp [iO,PX m]
theorem PY:∀m n,∀x∈iO m n,x < 256
 | 0,_,x,h=>by simp [iO] at h
 | m+1,n,x,h=>by
  simp only [iO,List.mem_cons] at h
  rcases h with rfl | h
  ·omega
  ·exact PY m _ x h
/-- The last byte without its high bit: as numbers are written. -/
theorem acn:∀ (s n:Nat),lu n=s+1→∃x,(iO (s+1) n)[s]? = some x∧((iO (s+1) n).set s (x % 128)).map UInt8.ofNat=gJ n
 | 0,n,h=>by
  have hn:n < 128:=by
   by_cases hn:n < 128
   ·exact hn
   ·rw [JX hn] at h;have:=JY (n / 128);omega
  refine ⟨n % 128+128,by simp [iO], ?_⟩
  rw [EO hn]
  simp -implicitDefEqProofs [iO]
  rw [Nat.mod_eq_of_lt hn]
 | s+1,n,h=>by
  have hn:¬ n < 128:=by
   intro hn
   unfold lu at h;rw [EO hn] at h;simp at h
  rw [JX hn] at h
  obtain ⟨x,h1,h2⟩:=acn s (n / 128) (by omega)
  refine ⟨x,by simp only [iO,List.getElem?_cons_succ] at h1 ⊢;exact h1, ?_⟩
  rw [PW hn,← h2]
  simp -implicitDefEqProofs [iO]
theorem OJ (n:Nat) (hn:n < 18446744073709551616):TT.lim 8 [.i .u64 n]=some [.s (gJ n)]:=by
 have h8:=alo n hn
 have hp:=JY n
 have hs:=PZ hn
 obtain ⟨s,hs1⟩:∃s,lu n=s+1:=⟨lu n - 1,by omega⟩
 obtain ⟨x,h1,h2⟩:=acn s n hs1
 rw [hs1] at h8
 have h10:TT.lim 11 [.i .u64 n,.l ((List.replicate (s+1) 0).map gu),.i .i64 ((s+1:Nat):Int),.i .i64 0]=some [.i .i64 0,.l ((iO (s+1) n).map gu)]:=by
  have:=ZC (s+1) n [] hn (by simp;omega)
  simpa using this
 have hr:(List.replicate (s+1) 0).map gu=List.replicate (s+1) (GV.i .u8 0):=by rw [List.map_replicate];rfl
 rw [hr] at h10
 have hx:x < 256:=PY _ _ x (List.mem_of_getElem? h1)
 have ha:=Qo x hx
 have hget:((iO (s+1) n).map gu)[s]? = some (gu x):=by rw [List.getElem?_map,h1];rfl
 have hset:((iO (s+1) n).map gu).set s (GV.i .u8 ((x % 128:Nat):Int))=((iO (s+1) n).set s (x % 128)).map gu:=(List.map_set (f:=gu) (l:=iO (s+1) n) (i:=s) (a:=x % 128)).symm
 have hb:=Rw ((iO (s+1) n).set s (x % 128)) (fun y hy=>by
  rcases List.mem_or_eq_of_mem_set hy with hy | rfl
  ·exact PY _ _ y hy
  ·omega)
 rw [h2] at hb
 have hlen:(((iO (s+1) n).set s (x % 128)).map gu).length=s+1:=by simp [PX]
 have hlr:(List.replicate (s+1) (GV.i .u8 0)).length=s+1:=by simp
 have hl1:((iO (s+1) n).map gu).length=s+1:=by simp [PX]
 generalize ((iO (s+1) n).set s (x % 128)).map gu=L3 at hset hb hlen
 generalize (iO (s+1) n).map gu=L2 at h10 hget hset hl1
 generalize hrep:List.replicate (s+1) (GV.i .u8 0)=L1 at h10 hlr
 refine aA rfl rfl ?_ rfl
 have hw:=wrap64 (n:=(s:Int)) (by omega) (by omega)
 have hcast:((s+1:Nat):Int)=(s:Int)+1:=by omega
 rw [hcast] at h8 h10
 have hc1:(0:Int)≤(s:Int)+1∧(s:Int)+1≤281474976710656∧(s:Int)+1≤1152921504606846976:=by omega
 have hc2:((s:Int)+1).toNat=s+1:=by omega
 have hlt:(s:Int) < (s:Int)+1:=by omega
 have hs2:(s:Int)+1 - 1=(s:Int):=by omega
 generalize hM:((x % 128:Nat):Int)=M at ha hset
 have hxx:gu x=.i .u8 x:=rfl
 have h48:s+1≤281474976710656:=by omega
 have hg2:L2[s]'(by omega)=gu x:=by have:=hget;rw [List.getElem?_eq_getElem (by omega)] at this;exact Option.some.inj this
 simp -implicitDefEqProofs [h8,hc1,hc2,hrep,hlr,h10,hl1,hs2,hw,hlt,hget,hg2,ha,hset,hxx,hlen,hb,h48,GV.fA]
theorem acX (a b:List UInt8):kS (a++b)=kS a++kS b:=by simp [kS]
@[simp] theorem anV (a:List UInt8):(kS a).length=a.length:=by simp [kS]
theorem Rq (a:List UInt8):(kS a).all (GV.fA 1)=true:=by
 rw [List.all_eq_true]
 intro x hx
 obtain ⟨b,_,rfl⟩:=List.mem_map.1 hx
 rfl
theorem Ru:∀a:List UInt8,lF (kS a)=some a
 | []=>rfl
 | x::a=>by
  have ih:=Ru a
  simp only [kS,List.map_cons,lF] at ih ⊢
  have:=x.toNat_lt
  rw [if_pos (by omega),ih]
  simp
def kD (x:bV):List UInt8:=gJ x.1.length++x.1++gJ x.2.length++x.2
def qy (d:List bV):List UInt8:=gJ d.length++d.flatMap kD
theorem EN {n:Nat} (h:n < 18446744073709551616):(gJ n).length≤10:=PZ h
theorem aev (x:bV) (h1:x.1.length≤140737488351232) (h2:x.2.length≤140737488351232):TT.lim 13 [ent x]=some [.s (kD x)]:=by
 have k1:=OJ x.1.length (by omega)
 have k2:=OJ x.2.length (by omega)
 have l1:=EN (n:=x.1.length) (by omega)
 have l2:=EN (n:=x.2.length) (by omega)
 have w1:=gK (n:=(x.1.length:Int)) (by omega) (by omega)
 have w2:=gK (n:=(x.2.length:Int)) (by omega) (by omega)
 refine aA rfl rfl ?_ rfl
 have c1:((gJ x.1.length).length:Int)+(x.1.length:Int)≤9223372036854775807:=by omega
 have c2:((gJ x.1.length).length:Int)+((x.1.length:Int)+((gJ x.2.length).length:Int))≤9223372036854775807:=by omega
 have c3:((gJ x.1.length).length:Int)+((x.1.length:Int)+(((gJ x.2.length).length:Int)+(x.2.length:Int)))≤9223372036854775807:=by omega
 simp -implicitDefEqProofs [w1,w2,k1,k2,c1,c2,c3,kD,Int.add_assoc]
theorem Yl {x:bV} (h:nG x=true):(kD x).length≤620:=by
 unfold nG at h
 simp only [decide_eq_true_iff] at h
 have l1:=EN (n:=x.1.length) (by omega)
 have l2:=EN (n:=x.2.length) (by omega)
 simp only [kD,List.length_append]
 omega
theorem YG:∀d:List bV,d.all nG=true→(d.flatMap kD).length≤620 * d.length
 | [],_=>by simp
 | x::d,h=>by
  rw [List.all_cons,Bool.and_eq_true] at h
  have:=Yl h.1
  have:=YG d h.2
  simp only [List.flatMap_cons,List.length_append,List.length_cons]
  omega
theorem ZE (d:List bV) (hf:d.all nG=true) (hl:d.length≤40):∀ (m i:Nat) (acc:List UInt8),i+m=d.length→acc.length≤10+620 * i→
 TT.lim 12 [.l (d.map ent),.i .i64 d.length,.i .i64 i,.l (kS acc)]=some [.i .i64 0,.l (kS (acc++(d.drop i).flatMap kD))]
 | 0,i,acc,hi,ha=>by
  have h0:d.drop i=[]:=List.drop_eq_nil_of_le (by omega)
  refine ay rfl rfl ?_
  have h:¬ ((i:Int) < d.length):=by omega
  simp -implicitDefEqProofs [h,h0]
 | m+1,i,acc,hi,ha=>by
  have hlt:i < d.length:=by omega
  have hx:=List.all_eq_true.1 hf d[i] (List.getElem_mem hlt)
  have hx1:=hx
  unfold nG at hx1
  simp only [decide_eq_true_iff] at hx1
  have hp:=aev d[i] (by omega) (by omega)
  have hpl:=Yl hx
  have ih:TT.lim 12 [.l (d.map ent),.i .i64 d.length,.i .i64 ((i:Int)+1),.l (kS (acc++kD d[i]))]=_:=ZE d hf hl m (i+1) (acc++kD d[i]) (by omega) (by simp;omega)
  rw [acX] at ih
  have hd:(d.drop i).flatMap kD=kD d[i]++(d.drop (i+1)).flatMap kD:=by rw [List.drop_eq_getElem_cons hlt,List.flatMap_cons]
  rw [hd,← List.append_assoc]
  refine ay rfl rfl ?_
  have h:((i:Int) < d.length):=by omega
  have hw:=wrap64 (n:=(i:Int)+1) (by omega) (by omega)
  have hok:=Rq (kD d[i])
  have hb:2 * (acc.length+(kD d[i]).length)≤281474976710656∧acc.length+(kD d[i]).length≤281474976710656:=by omega
  have he:GV.g [GV.s d[i].1,GV.s d[i].2]=ent d[i]:=rfl
  simp -implicitDefEqProofs [-List.all_eq_true,h,hlt,he,hp,hok,hb,hw,ih]
theorem agP (d:List bV) (hf:kE d=true):TT.lim 7 [.l (d.map ent)]=some [.s (qy d)]:=by
 unfold kE at hf
 rw [Bool.and_eq_true,decide_eq_true_iff] at hf
 have k:=OJ d.length (by omega)
 have l1:=EN (n:=d.length) (by omega)
 have w1:=gK (n:=(d.length:Int)) (by omega) (by omega)
 have h11:TT.lim 12 [.l (d.map ent),.i .i64 d.length,.i .i64 0,.l (kS (gJ d.length))]=_:=ZE d hf.1 hf.2 d.length 0 (gJ d.length) (by omega) (by omega)
 rw [List.drop_zero] at h11
 have hb:2 * (gJ d.length).length≤281474976710656∧(gJ d.length).length≤281474976710656:=by omega
 have hok:=Rq (gJ d.length)
 have hfl:=YG d hf.1
 have hc:(gJ d.length).length+(List.flatMap kD d).length≤281474976710656:=by omega
 have hbg:=Ru (gJ d.length++d.flatMap kD)
 refine aA rfl rfl ?_ rfl
 unfold qy
 generalize d.flatMap kD=F at *
 simp -implicitDefEqProofs [-List.all_eq_true,w1,k,hb,hok,h11,hc,hbg]
def iY (s:List UInt8) (lo hi:Int):Int:=if (s.length:Int) < lo then 13 else if hi < (s.length:Int) then 13 else if Lib.validD s=true then 0 else 11
theorem afs (s:List UInt8) (h:s.length≤140737488351232):TT.lim 29 [.s s]=some [.b (Lib.validD s)]:=by
 have h21:TT.lim 30 [.s s]=some [.b (Lib.validD s)]:=Ib (Ds:=Ds) (k:=30) (f:=BZ) rfl (by simp only [BZ];rw [if_pos (by omega)])
 refine aA rfl rfl ?_ rfl
 simp -implicitDefEqProofs [h21]
theorem Dl (s:List UInt8) (lo hi:Int) (h:s.length≤140737488351232):TT.lim 28 [.s s,.i .i64 lo,.i .i64 hi]=some [.i .i64 (iY s lo hi)]:=by
 have h20:=afs s h
 refine aA rfl rfl ?_ rfl
 unfold iY
 by_cases h1:(s.length:Int) < lo
 ·simp -implicitDefEqProofs [h1]
 ·by_cases h2:hi < (s.length:Int)
  ·simp -implicitDefEqProofs [h1,h2]
  ·cases hv:Lib.validD s<;>rw [hv] at h20<;>simp [h1,h2,h20,hv]
def mD (x:bV):Int:=if iY x.1 1 64≠0 then iY x.1 1 64 else iY x.2 0 256
theorem aer (x:bV) (h1:x.1.length≤140737488351232) (h2:x.2.length≤140737488351232):TT.lim 27 [ent x]=some [.i .i64 (mD x)]:=by
 have k1:=Dl x.1 1 64 h1
 have k2:=Dl x.2 0 256 h2
 refine aA rfl rfl ?_ rfl
 unfold mD
 by_cases h:iY x.1 1 64=0
 ·simp -implicitDefEqProofs [k1,h,k2]
 ·simp -implicitDefEqProofs [k1,h]
def Af:Option (List UInt8)→List bV→Int
 | _,[]=>0
 | p,x::xs=>if mD x≠0 then mD x else match p with
  | none=>Af (some x.1) xs
  | some k=>if x.1=k then 14 else if Op.bytesLess x.1 k=true then 7 else Af (some x.1) xs
def tagged (r:Int):List GV:=if r=0 then [.i .i64 1] else [.i .i64 0,.i .i64 r]
def prevK (d:List bV) (i:Nat):Option (List UInt8):=if i=0 then none else (d[i - 1]?).map (·.1)
theorem loop17 (d:List bV) (hd:rM d):∀m i:Nat,i+m=d.length→TT.lim 26 [.l (d.map ent),.i .i64 d.length,.i .i64 i]=some (tagged (Af (prevK d i) (d.drop i)))
 | 0,i,hi=>by
  have h0:d.drop i=[]:=List.drop_eq_nil_of_le (by omega)
  refine ay rfl rfl ?_
  have h:¬ ((i:Int) < d.length):=by omega
  simp -implicitDefEqProofs [h,h0,Af,tagged]
 | m+1,i,hi=>by
  have hlt:i < d.length:=by omega
  have hx:=hd.2 d[i] (List.getElem_mem hlt)
  have hp:=aer d[i] hx.1 hx.2
  have ih:TT.lim 26 [.l (d.map ent),.i .i64 d.length,.i .i64 ((i:Int)+1)]=_:=loop17 d hd m (i+1) (by omega)
  have hpk:prevK d (i+1)=some d[i].1:=by unfold prevK;rw [if_neg (by omega)];simp [hlt]
  rw [hpk] at ih
  have hdr:d.drop i=d[i]::d.drop (i+1):=List.drop_eq_getElem_cons hlt
  rw [hdr]
  refine ay rfl rfl ?_
  have h:((i:Int) < d.length):=by omega
  have hw:=wrap64 (n:=(i:Int)+1) (by omega) (by have:=hd.1;omega)
  have he:GV.g [GV.s d[i].1,GV.s d[i].2]=ent d[i]:=rfl
  by_cases h1:mD d[i]=0
  rotate_left
  ·simp -implicitDefEqProofs [h,hlt,he,hp,h1,Af,tagged]
  by_cases h0:i=0
  ·subst h0
   simp only [Int.natCast_zero,Int.zero_add] at hw ih
   simp -implicitDefEqProofs [h,hlt,he,hp,h1,Af,prevK,hw]
   simpa using ih
  ·have hi1:i - 1 < d.length:=by omega
   have hpk2:prevK d i=some d[i - 1].1:=by unfold prevK;rw [if_neg h0];simp [hi1]
   have hw2:=wrap64 (n:=(i:Int) - 1) (by omega) (by have:=hd.1;omega)
   have hi0:¬ ((i:Int)=0):=by omega
   have hge:(0:Int)≤(i:Int) - 1:=by omega
   have ht:((i:Int) - 1).toNat=i - 1:=by omega
   have hnl:(1:Int)≤(i:Int):=by omega
   rw [hpk2]
   by_cases h2:d[i].1=d[i - 1].1
   ·have h2':(d[i].1=d[i - 1].1)=True:=eq_true h2
    clear h2
    simp -implicitDefEqProofs [h,hlt,he,hp,h1,hi0,h0,hw2,ht,hi1,h2',Af,tagged,hnl]
   ·cases h3:Op.bytesLess d[i].1 d[i - 1].1 with
    | true=>simp [h,hlt,he,hp,h1,hi0,h0,hw2,ht,hi1,h2,h3,Af,tagged,hnl]
    | false=>simp [h,hlt,he,hp,h1,hi0,h0,hw2,ht,hi1,h2,h3,Af,hw,ih,hnl]
def Aq (d:List bV):Int:=if d.length=0 then 12 else if 16 < d.length then 13 else Af none d
theorem check16 (d:List bV) (hd:rM d):TT.lim 25 [.l (d.map ent)]=some [.i .i64 (Aq d)]:=by
 have h17:TT.lim 26 [.l (d.map ent),.i .i64 d.length,.i .i64 0]=_:=loop17 d hd d.length 0 (by omega)
 have hpk:prevK d 0=none:=rfl
 rw [hpk,List.drop_zero] at h17
 have w1:=gK (n:=(d.length:Int)) (by omega) (by have:=hd.1;omega)
 refine aA rfl rfl ?_ rfl
 unfold Aq
 by_cases h0:d.length=0
 ·have h0':(d.length:Int)=0:=by omega
  have:d=[]:=List.eq_nil_of_length_eq_zero h0
  subst this
  simp -implicitDefEqProofs [IntKind.wrap,IntKind.signed]
 ·have h0':¬ (d.length:Int)=0:=by omega
  by_cases h1:16 < d.length
  ·have h1':(16:Int) < (d.length:Int):=by omega
   simp -implicitDefEqProofs [w1,h0,h1,h0',h1']
  ·have h1':¬ (16:Int) < (d.length:Int):=by omega
   by_cases h2:Af none d=0
   ·simp only [tagged,h2,if_true] at h17
    simp -implicitDefEqProofs [w1,h0,h1,h0',h1',h17,h2]
   ·simp only [tagged,h2,if_false] at h17
    simp -implicitDefEqProofs [w1,h0,h1,h0',h1',h17]
def tu (r:Row):Int:=if Aq r.1≠0 then Aq r.1 else if r.2=0 then 18 else 0
theorem check15 (r:Row) (hd:rM r.1):TT.lim 24 [row r]=some [.i .i64 (tu r)]:=by
 have k:=check16 r.1 hd
 refine aA rfl rfl ?_ rfl
 unfold tu
 by_cases h:Aq r.1=0
 ·by_cases h2:r.2=0
  ·simp -implicitDefEqProofs [k,h,h2]
  ·simp -implicitDefEqProofs [k,h,h2]
 ·simp -implicitDefEqProofs [k,h]
def mF (long:Bool) (r:Row):Bool:=decide (r.1.length≤18)&&kE r.1&&(!long || decide ((qy r.1).length≤100))
theorem ZG (l:List Row) (hl:Rows l):∀m i:Nat,i+m=l.length→TT.lim 6 [.l (l.map row),.i .i64 l.length,.i .i64 i]=some (if (l.drop i).all (mF (decide (40 < l.length)))=true then [.i .i64 1] else [.i .i64 0])
 | 0,i,hi=>by
  have h0:l.drop i=[]:=List.drop_eq_nil_of_le (by omega)
  refine ay rfl rfl ?_
  have h:¬ ((i:Int) < l.length):=by omega
  simp -implicitDefEqProofs [h,h0]
 | m+1,i,hi=>by
  have hlt:i < l.length:=by omega
  have hr:=hl.2 l[i] (List.getElem_mem hlt)
  have ih:TT.lim 6 [.l (l.map row),.i .i64 l.length,.i .i64 ((i:Int)+1)]=_:=ZG l hl m (i+1) (by omega)
  have hda:(l.drop i).all (mF (decide (40 < l.length)))=(mF (decide (40 < l.length)) l[i]&&(l.drop (i+1)).all (mF (decide (40 < l.length)))):=by rw [List.drop_eq_getElem_cons hlt,List.all_cons]
  rw [hda]
  refine ay rfl rfl ?_
  have h:((i:Int) < l.length):=by omega
  have hw:=wrap64 (n:=(i:Int)+1) (by omega) (by have:=hl.1;omega)
  have h4:=YA l[i].1 hr.1
  by_cases h1:18 < l[i].1.length
  ·have h1':(18:Int) < (l[i].1.length:Int):=by omega
   have:mF (decide (40 < l.length)) l[i]=false:=by unfold mF;simp;omega
   rw [this]
   simp -implicitDefEqProofs [h,hlt,h1']
  have h1':¬ (18:Int) < (l[i].1.length:Int):=by omega
  have h1d:l[i].1.length≤18:=by omega
  cases hf:kE l[i].1 with
  | false=>
   rw [hf] at h4
   have:mF (decide (40 < l.length)) l[i]=false:=by unfold mF;simp [hf]
   rw [this]
   simp -implicitDefEqProofs [h,hlt,h1',h4]
  | true=>
   rw [hf] at h4
   have k6:=agP l[i].1 hf
   by_cases h2:40 < l.length
   ·have h2':(40:Int) < (l.length:Int):=by omega
    by_cases h3:100 < (qy l[i].1).length
    ·have h3':(100:Int) < ((qy l[i].1).length:Int):=by omega
     have:mF (decide (40 < l.length)) l[i]=false:=by unfold mF;simp [h2];omega
     rw [this]
     simp -implicitDefEqProofs [h,hlt,h1',h4,h2',k6,h3']
    ·have h3':¬ (100:Int) < ((qy l[i].1).length:Int):=by omega
     have:mF (decide (40 < l.length)) l[i]=true:=by unfold mF;simp [h2,hf,h1d];omega
     rw [this,Bool.true_and]
     simp -implicitDefEqProofs [h,hlt,h1',h4,h2',k6,h3',hw,ih]
   ·have h2':¬ (40:Int) < (l.length:Int):=by omega
    have:mF (decide (40 < l.length)) l[i]=true:=by unfold mF;simp [h2,hf,h1d]
    rw [this,Bool.true_and]
    simp -implicitDefEqProofs [h,hlt,h1',h4,h2',hw,ih]
def wH (l:List Row):Bool:=l.all (mF (decide (40 < l.length)))&&decide (l.length≤300)
theorem ae7 (l:List Row) (hl:Rows l):TT.lim 5 [.l (l.map row)]=some [.b (wH l)]:=by
 refine aA rfl rfl ?_ rfl
 have h3:TT.lim 6 [.l (l.map row),.i .i64 l.length,.i .i64 0]=_:=ZG l hl l.length 0 (by omega)
 rw [List.drop_zero] at h3
 unfold wH
 cases hc:l.all (mF (decide (40 < l.length))) with
 | false=>rw [hc] at h3;simp [h3]
 | true=>
  rw [hc] at h3;simp only [if_true] at h3
  have:(decide ((l.length:Int)≤300))=decide (l.length≤300):=by rw [Bool.eq_iff_iff];simp;omega
  simp -implicitDefEqProofs [h3,this]
theorem ae6 {l:List Row} (h:wH l=true):∀r∈l,kE r.1=true:=by
 unfold wH at h
 rw [Bool.and_eq_true] at h
 intro r hr
 have:=List.all_eq_true.1 h.1 r hr
 unfold mF at this
 simp only [Bool.and_eq_true] at this
 exact this.1.2
theorem Uk (d:List bV) (h:d.length≤40):TT.lim 81 [.l (d.map ent)]=some [.l (d.map ent)]:=by
 refine Ib (Ds:=Ds) (k:=81) (f:=Ah 32 2) rfl ?_
 have hall:(d.map ent).all (GV.fA 2)=true:=by
  rw [List.all_eq_true];intro x hx;obtain ⟨r,_,rfl⟩:=List.mem_map.1 hx;rfl
 simp only [Ah]
 rw [if_pos ⟨by rw [List.length_map];omega,hall⟩]
abbrev K (r:Row):List UInt8:=qy r.1
/-- How many rows at the head have lesser keys. -/
def Qm (k:List UInt8):List Row→Nat
 | []=>0
 | r::rs=>if Op.bytesLess (K r) k=true then Qm k rs+1 else 0
def Qv:List Row→List Row→Bool
 | _,[]=>true
 | t,r::rs=>match t.drop (Qm (K r) t) with
  | []=>false
  | s::t'=>decide (K s=K r)&&decide (r.2≤s.2)&&Qv (s::t') rs
theorem Dy (x y:bV):jk [1,1] [.s x.1,.s x.2] [.s y.1,.s y.2]=some (decide (x=y)):=by
 simp only [jk,Option.map_some,Bool.and_true]
 congr 1
 rw [Bool.eq_iff_iff]
 simp -implicitDefEqProofs [Prod.ext_iff]
theorem ZH (d e:List bV) (hl:d.length=e.length) (hb:d.length≤140737488351232):∀m i:Nat,i+m=d.length→
 TT.lim 102 [.l (d.map ent),.l (e.map ent),.i .i64 d.length,.i .i64 i]=some (if d.drop i=e.drop i then [.i .i64 1] else [.i .i64 0])
 | 0,i,hi=>by
  have h0:d.drop i=[]:=List.drop_eq_nil_of_le (by omega)
  have h1:e.drop i=[]:=List.drop_eq_nil_of_le (by omega)
  refine ay rfl rfl ?_
  have h:¬ ((i:Int) < d.length):=by omega
  simp -implicitDefEqProofs [h,h0,h1]
 | m+1,i,hi=>by
  have hlt:i < d.length:=by omega
  have hlt2:i < e.length:=by omega
  have ih:TT.lim 102 [.l (d.map ent),.l (e.map ent),.i .i64 d.length,.i .i64 ((i:Int)+1)]=_:=ZH d e hl hb m (i+1) (by omega)
  have hd:(d.drop i=e.drop i)↔(d[i]=e[i]∧d.drop (i+1)=e.drop (i+1)):=by
   rw [List.drop_eq_getElem_cons hlt,List.drop_eq_getElem_cons hlt2,List.cons.injEq]
  have hq:=Dy d[i] e[i]
  refine ay rfl rfl ?_
  have h:((i:Int) < d.length):=by omega
  have hw:=wrap64 (n:=(i:Int)+1) (by omega) (by omega)
  by_cases h1:d[i]=e[i]
  ·have h2:(d.drop i=e.drop i)↔(d.drop (i+1)=e.drop (i+1)):=by rw [hd];simp [h1]
   have hq':jk [1,1] [.s d[i].1,.s d[i].2] [.s e[i].1,.s e[i].2]=some true:=by rw [hq];simp [h1]
   simp only [h2]
   simp -implicitDefEqProofs [h,hlt,hlt2,hq',hw,ih]
  ·have h2:¬ (d.drop i=e.drop i):=by rw [hd];simp [h1]
   have hq':jk [1,1] [.s d[i].1,.s d[i].2] [.s e[i].1,.s e[i].2]=some false:=by rw [hq];simp [h1]
   rw [if_neg h2]
   simp -implicitDefEqProofs [h,hlt,hlt2,hq']
theorem Yu (d e:List bV) (hb:d.length≤140737488351232) (hb2:e.length≤140737488351232):TT.lim 101 [.l (d.map ent),.l (e.map ent)]=some [.b (decide (d=e))]:=by
 refine aA rfl rfl ?_ rfl
 by_cases hl:d.length=e.length
 ·have hl':(d.length:Int)=(e.length:Int):=by omega
  have h32:TT.lim 102 [.l (d.map ent),.l (e.map ent),.i .i64 d.length,.i .i64 0]=_:=ZH d e hl hb d.length 0 (by omega)
  rw [List.drop_zero,List.drop_zero] at h32
  by_cases h:d=e
  ·rw [if_pos h] at h32
   have h':(d=e)=True:=eq_true h
   clear h
   rw [hl'] at h32
   simp -implicitDefEqProofs [hl',h32,h']
  ·rw [if_neg h] at h32
   rw [hl'] at h32
   simp -implicitDefEqProofs [hl',h32,h]
 ·have hl':¬ (d.length:Int)=(e.length:Int):=by omega
  have h:¬ d=e:=fun h=>hl (by rw [h])
  simp -implicitDefEqProofs [hl',hl,h]
theorem ajJ (r s:Row) (hb:r.1.length≤140737488351232) (hb2:s.1.length≤140737488351232):TT.lim 106 [row r,row s]=some [.b (decide (r=s))]:=by
 have k:=Yu r.1 s.1 hb hb2
 refine aA rfl rfl ?_ rfl
 by_cases h:r.2=s.2
 ·have:decide (r=s)=decide (r.1=s.1):=by rw [Bool.eq_iff_iff];simp [Prod.ext_iff,h]
  rw [this]
  simp -implicitDefEqProofs [h,k]
 ·have:decide (r=s)=false:=by rw [decide_eq_false_iff_not];intro e;exact h (by rw [e])
  rw [this]
  simp -implicitDefEqProofs [h]
theorem ZF (a b:List Row) (hl:a.length=b.length) (hb:a.length≤140737488351232) (h1:∀r∈a,r.1.length≤140737488351232) (h2:∀r∈b,r.1.length≤140737488351232):∀m i:Nat,i+m=a.length→
 TT.lim 105 [.l (b.map row),.l (a.map row),.i .i64 a.length,.i .i64 i]=some (if a.drop i=b.drop i then [.i .i64 1] else [.i .i64 0])
 | 0,i,hi=>by
  have h0:a.drop i=[]:=List.drop_eq_nil_of_le (by omega)
  have h1:b.drop i=[]:=List.drop_eq_nil_of_le (by omega)
  refine ay rfl rfl ?_
  have h:¬ ((i:Int) < a.length):=by omega
  simp -implicitDefEqProofs [h,h0,h1]
 | m+1,i,hi=>by
  have hlt:i < a.length:=by omega
  have hlt2:i < b.length:=by omega
  have ih:TT.lim 105 [.l (b.map row),.l (a.map row),.i .i64 a.length,.i .i64 ((i:Int)+1)]=_:=ZF a b hl hb h1 h2 m (i+1) (by omega)
  have hd:(a.drop i=b.drop i)↔(a[i]=b[i]∧a.drop (i+1)=b.drop (i+1)):=by
   rw [List.drop_eq_getElem_cons hlt,List.drop_eq_getElem_cons hlt2,List.cons.injEq]
  have k:=ajJ a[i] b[i] (h1 _ (List.getElem_mem hlt)) (h2 _ (List.getElem_mem hlt2))
  have r1:GV.g [.l (a[i].1.map ent),.i .u64 a[i].2]=row a[i]:=rfl
  have r2:GV.g [.l (b[i].1.map ent),.i .u64 b[i].2]=row b[i]:=rfl
  refine ay rfl rfl ?_
  have h:((i:Int) < a.length):=by omega
  have hw:=wrap64 (n:=(i:Int)+1) (by omega) (by omega)
  by_cases h3:a[i]=b[i]
  ·have h4:(a.drop i=b.drop i)↔(a.drop (i+1)=b.drop (i+1)):=by rw [hd];simp [h3]
   simp only [h4]
   have k':TT.lim 106 [row a[i],row b[i]]=some [.b true]:=by rw [k];simp [h3]
   simp -implicitDefEqProofs [h,hlt,hlt2,r1,r2,k',hw,ih]
  ·have h4:¬ (a.drop i=b.drop i):=by rw [hd];simp [h3]
   rw [if_neg h4]
   have k':TT.lim 106 [row a[i],row b[i]]=some [.b false]:=by rw [k];simp [h3]
   simp -implicitDefEqProofs [h,hlt,hlt2,r1,r2,k']
theorem akK (a b:List Row) (hb:a.length≤140737488351232) (hb2:b.length≤140737488351232) (h1:∀r∈a,r.1.length≤140737488351232) (h2:∀r∈b,r.1.length≤140737488351232):TT.lim 103 [.l (a.map row),.l (b.map row)]=some [.b (decide (a=b))]:=by
 have h28:TT.lim 104 [.l (a.map row),.l (b.map row)]=some [.b (decide (a=b))]:=by
  refine aA rfl rfl ?_ rfl
  by_cases hl:a.length=b.length
  ·have hl':(a.length:Int)=(b.length:Int):=by omega
   have AU:TT.lim 105 [.l (b.map row),.l (a.map row),.i .i64 a.length,.i .i64 0]=_:=ZF a b hl hb h1 h2 a.length 0 (by omega)
   rw [List.drop_zero,List.drop_zero] at AU
   rw [hl'] at AU
   by_cases h:a=b
   ·rw [if_pos h] at AU
    have h':(a=b)=True:=eq_true h
    clear h
    simp -implicitDefEqProofs [hl',AU,h']
   ·rw [if_neg h] at AU
    simp -implicitDefEqProofs [hl',AU,h]
  ·have hl':¬ (a.length:Int)=(b.length:Int):=by omega
   have h:¬ a=b:=fun h=>hl (by rw [h])
   simp -implicitDefEqProofs [hl',hl,h]
 refine aA rfl rfl ?_ rfl
 simp -implicitDefEqProofs [h28]
theorem yu (a b:List UInt8):Op.bytesLess a b=true↔a < b:=by rw [FN];simp
/-- Rows whose keys rise. -/
def xY (l:List Row):Prop:=l.Pairwise fun a b=>K a < K b
theorem aew {cs:List GV} {r0:List GV} (h:bg.fJ [.list true [.str,.str],.int .u64] cs):∃r:Row,(rM r.1∧0≤r.2∧r.2 < 18446744073709551616)∧GV.g cs=row r:=by
 obtain ⟨g,l,rfl,h1,h⟩:=fM h
 obtain ⟨n,l,rfl,h2,h⟩:=fM h
 obtain rfl:=DR h
 obtain ⟨n,rfl,n1,n2⟩:=lI h2
 obtain ⟨xs,rfl,h3,h4⟩:=GL h1
 obtain ⟨d,hd,rfl⟩:∃d:List bV,(∀x∈d,x.1.length≤140737488351232∧x.2.length≤140737488351232)∧xs=d.map ent:=D6 fun x hx=>by
  obtain ⟨k1,k2⟩:=h4 x hx
  cases x<;>simp [GV.scalar] at k2
  obtain ⟨a,l,e1,a1,k1⟩:=fM k1
  obtain ⟨b,l,rfl,b1,k1⟩:=fM k1
  obtain rfl:=DR k1
  obtain ⟨s,rfl,s1⟩:=sK a1
  obtain ⟨u,rfl,u1⟩:=sK b1
  simp only [KN] at e1
  subst e1
  exact ⟨(s,u),⟨Nat.le_trans s1 (by decide),Nat.le_trans u1 (by decide)⟩,rfl⟩
 exact ⟨(d,n),⟨⟨by have:=Nat.le_trans h3 (by decide:reachBytes≤140737488351232);simpa using this,hd⟩,n1,n2⟩,rfl⟩
theorem ajK {g:GV} (h:(bg.list true [.list true [.str,.str],.int .u64]).has g):∃l:List Row,Rows l∧g=.l (l.map row):=by
 obtain ⟨xs,rfl,h1,h2⟩:=GL h
 obtain ⟨l,hl,rfl⟩:∃l:List Row,(∀r∈l,rM r.1∧0≤r.2∧r.2 < 18446744073709551616)∧xs=l.map row:=D6 fun x hx=>by
  obtain ⟨k1,k2⟩:=h2 x hx
  cases x<;>simp [GV.scalar] at k2
  obtain ⟨r,hr,e⟩:=aew (r0:=[]) k1
  exact ⟨r,hr,e⟩
 exact ⟨l,⟨by have:=Nat.le_trans h1 (by decide:reachBytes≤140737488351232);simpa using this,hl⟩,rfl⟩
def vY:Option (List UInt8)→List Row→Int
 | _,[]=>0
 | p,r::rs=>if tu r≠0 then tu r else match p with
  | none=>vY (some (K r)) rs
  | some k=>if K r=k then 14 else if Op.bytesLess (K r) k=true then 7 else vY (some (K r)) rs
theorem loop38 (t:List Row) (ht:Rows t) (hf:∀r∈t,kE r.1=true):∀ (m i:Nat) (p:List UInt8),i+m=t.length→
 TT.lim 23 [.s p,.l (t.map row),.i .i64 t.length,.i .i64 i]=some (tagged (vY (if i=0 then none else some p) (t.drop i)))
 | 0,i,p,hi=>by
  have h0:t.drop i=[]:=List.drop_eq_nil_of_le (by omega)
  refine ay rfl rfl ?_
  have h:¬ ((i:Int) < t.length):=by omega
  simp -implicitDefEqProofs [h,h0,vY,tagged]
 | m+1,i,p,hi=>by
  have hlt:i < t.length:=by omega
  have hr:=ht.2 t[i] (List.getElem_mem hlt)
  have k15:=check15 t[i] hr.1
  have k6:=agP t[i].1 (hf _ (List.getElem_mem hlt))
  have hrow:GV.g [.l (t[i].1.map ent),.i .u64 t[i].2]=row t[i]:=rfl
  have ih:TT.lim 23 [.s (qy t[i].1),.l (t.map row),.i .i64 t.length,.i .i64 ((i:Int)+1)]=_:=loop38 t ht hf m (i+1) (qy t[i].1) (by omega)
  rw [if_neg (by omega)] at ih
  rw [List.drop_eq_getElem_cons hlt]
  refine ay rfl rfl ?_
  have h:((i:Int) < t.length):=by omega
  have hw:=wrap64 (n:=(i:Int)+1) (by omega) (by have:=ht.1;omega)
  by_cases h1:tu t[i]=0
  rotate_left
  ·simp -implicitDefEqProofs [-List.getElem_cons_drop,h,hlt,hrow,k15,h1,vY,tagged]
  by_cases h0:i=0
  ·subst h0
   simp only [Int.natCast_zero,Int.zero_add] at hw ih
   simp -implicitDefEqProofs [-List.getElem_cons_drop,h,hlt,hrow,k15,h1,k6,hw,vY]
   have hn:(0:Int) < (t.length:Int):=by omega
   simpa using ih
  ·have hi0:0 < i:=by omega
   by_cases h2:qy t[i].1=p
   ·have h2':(qy t[i].1=p)=True:=eq_true h2
    clear h2
    simp -implicitDefEqProofs [-List.getElem_cons_drop,h,hlt,hrow,k15,h1,k6,hi0,h0,h2',vY,tagged]
   ·cases h3:Op.bytesLess (qy t[i].1) p with
    | true=>simp [-List.getElem_cons_drop,h,hlt,hrow,k15,h1,k6,hi0,h0,h2,h3,vY,tagged]
    | false=>simp [-List.getElem_cons_drop,h,hlt,hrow,k15,h1,k6,hi0,h0,h2,h3,hw,ih,vY]
def Dp (t:List Row):Int:=if 256 < t.length then 13 else vY none t
theorem check37 (t:List Row) (ht:Rows t) (hf:∀r∈t,kE r.1=true):TT.lim 22 [.l (t.map row)]=some [.i .i64 (Dp t)]:=by
 have h38:TT.lim 23 [.s [],.l (t.map row),.i .i64 t.length,.i .i64 0]=_:=loop38 t ht hf t.length 0 [] (by omega)
 rw [if_pos rfl,List.drop_zero] at h38
 refine aA rfl rfl ?_ rfl
 unfold Dp
 by_cases h1:256 < t.length
 ·have h1':(256:Int) < (t.length:Int):=by omega
  simp -implicitDefEqProofs [h1,h1']
 ·have h1':¬ (256:Int) < (t.length:Int):=by omega
  by_cases h2:vY none t=0
  ·simp only [tagged,h2,if_true] at h38
   simp -implicitDefEqProofs [h1,h1',h38,h2]
  ·simp only [tagged,h2,if_false] at h38
   simp -implicitDefEqProofs [h1,h1',h38,h2]
theorem Uj:∀ {t:List Row} (p:Option (List UInt8)),xY t→(∀r∈t,tu r=0)→(∀k,p=some k→∀r∈t,k < K r)→vY p t=0
 | [],p,_,_,_=>by cases p<;>rfl
 | r::t,p,ht,hc,hp=>by
  have ht':=List.pairwise_cons.1 ht
  have ih:=Uj (t:=t) (some (K r)) ht'.2 (fun x hx=>hc x (by simp [hx])) (fun k hk x hx=>by cases hk;exact ht'.1 x hx)
  unfold vY
  rw [if_neg (by simp [hc r (by simp)])]
  cases p with
  | none=>exact ih
  | some k=>
   have hk:=hp k rfl r (by simp)
   have h1:¬ K r=k:=fun e=>by rw [e] at hk;exact List.lt_irrefl _ hk
   have h2:¬ Op.bytesLess (K r) k=true:=fun e=>List.lt_irrefl _ (List.lt_trans hk ((yu _ _).1 e))
   simp only
   rw [if_neg h1,if_neg h2]
   exact ih
theorem Rows.perm {l m:List Row} (h:l.Perm m) (hl:Rows l):Rows m:=⟨by rw [← h.length_eq];exact hl.1,fun r hr=>hl.2 r (h.mem_iff.2 hr)⟩
def val:List Row→List UInt8→Int
 | [],_=>0
 | r::rs,k=>if K r=k then r.2 else val rs k
def Pos (t:List Row):Prop:=∀r∈t,0 < r.2∧r.2 < 18446744073709551616
theorem wI {d:List bV} (h:kE d=true):d.length≤40:=by
 unfold kE at h;simp at h;omega
def zN (t:List Row):Prop:=∀r∈t,kE r.1=true
def Ok (t:List Row):Prop:=t.length≤256∧xY t∧∀r∈t,tu r=0
theorem Ui:∀ {t:List Row} (p:Option (List UInt8)),vY p t=0→xY t∧(∀r∈t,tu r=0)∧∀k,p=some k→∀r∈t,k < K r
 | [],p,_=>⟨List.Pairwise.nil,by simp,by simp⟩
 | r::t,p,h=>by
  unfold vY at h
  by_cases h1:tu r=0
  rotate_left
  ·rw [if_pos h1] at h;exact absurd h h1
  rw [if_neg (by simp [h1])] at h
  have main:∀ (h:vY (some (K r)) t=0),xY (r::t)∧∀x∈r::t,tu x=0:=by
   intro h
   obtain ⟨i1,i2,i3⟩:=Ui (some (K r)) h
   refine ⟨List.Pairwise.cons (i3 _ rfl) i1,fun x hx=>?_⟩
   rcases List.mem_cons.1 hx with rfl | hx
   ·exact h1
   ·exact i2 x hx
  cases p with
  | none=>exact ⟨(main h).1,(main h).2,by simp⟩
  | some k=>
   simp only at h
   split at h
   ·cases h
   next h2=>
   split at h
   ·cases h
   next h3=>
   refine ⟨(main h).1,(main h).2, ?_⟩
   rintro _ ⟨⟩ x hx
   have hk:k < K r:=by
    rcases List.le_iff_lt_or_eq.1 (List.not_lt.1 fun e=>h3 ((yu _ _).2 e)) with e | e
    ·exact e
    ·exact absurd e.symm h2
   rcases List.mem_cons.1 hx with rfl | hx
   ·exact hk
   ·exact List.lt_trans hk ((List.pairwise_cons.1 (main h).1).1 x hx)
theorem adf (t:List Row):Dp t=0↔Ok t:=by
 unfold Dp Ok
 constructor
 ·intro h
  split at h
  ·cases h
  ·obtain ⟨h1,h2,_⟩:=Ui none h
   exact ⟨by omega,h1,h2⟩
 ·rintro ⟨h1,h2,h3⟩
  rw [if_neg (by omega)]
  exact Uj none h2 h3 (by simp)
theorem aaT (r:Row):tu r=0↔Aq r.1=0∧r.2≠0:=by
 unfold tu
 by_cases h:Aq r.1=0
 ·simp -implicitDefEqProofs [h]
 ·simp -implicitDefEqProofs [h]
structure Tb (t:List Row):Prop where
 ok:Ok t
 rows:Rows t
 few:zN t
theorem Tb.pos {t:List Row} (h:Tb t):Pos t:=fun r hr=>by
 have h1:=((aaT r).1 (h.ok.2.2 r hr)).2
 have h2:=(h.rows.2 r hr).2
 omega
theorem Tb.rise {t:List Row} (h:Tb t):xY t:=h.ok.2.1
structure ku (t:List Row):Prop where
 len:t.length≤300
 few:zN t
 rows:Rows t
theorem Tb.good {t:List Row} (h:Tb t):ku t:=⟨Nat.le_trans h.ok.1 (by decide),h.few,h.rows⟩
theorem ku.tb {t:List Row} (h:ku t) (ho:Ok t):Tb t:=⟨ho,h.rows,h.few⟩
theorem afu {l:List Row} (hl:Rows l) (h:wH l=true):ku l:=by
 refine ⟨?_,fun r hr=>ae6 h r hr,hl⟩
 unfold wH at h
 rw [Bool.and_eq_true,decide_eq_true_iff] at h
 exact h.2
theorem akP (a b:List Row) (ha:ku a) (hb:ku b):TT.lim 103 [.l (a.map row),.l (b.map row)]=some [.b (decide (a=b))]:=
 akK a b (by have:=ha.len;omega) (by have:=hb.len;omega) (fun r hr=>(ha.rows.2 r hr).1.1) (fun r hr=>(hb.rows.2 r hr).1.1)
abbrev Sn:=Int×List Row
def oH (p x:List UInt8):Int:=if x=p then 14 else if Op.bytesLess x p=true then 7 else 0
theorem key_len {d:List bV} (hf:kE d=true):(qy d).length≤30000:=by
 unfold kE at hf
 rw [Bool.and_eq_true,decide_eq_true_iff] at hf
 have l1:=EN (n:=d.length) (by omega)
 have:=YG d hf.1
 unfold qy
 simp only [List.length_append];omega
def common:List UInt8→List UInt8→Nat
 | a::x,b::y=>if a=b then common x y+1 else 0
 | _,_=>0
theorem FW (b:List UInt8):common [] b=0:=by unfold common;rfl
theorem ad6 (a:List UInt8):common a []=0:=by cases a<;>rfl
theorem Vb:∀a b:List UInt8,common a b≤a.length∧common a b≤b.length
 | [],b=>by simp [common]
 | _::_,[]=>by simp [common]
 | a::x,b::y=>by
  unfold common
  have:=Vb x y
  split
  ·simp only [List.length_cons];omega
  ·omega
theorem common_take:∀a b:List UInt8,a.take (common a b)=b.take (common a b)
 | [],b=>by simp [common]
 | _::_,[]=>by simp [common]
 | a::x,b::y=>by
  unfold common
  split
  ·next e=>subst e;rw [List.take_succ_cons,List.take_succ_cons,common_take x y]
  ·simp
theorem U9 (a b:List UInt8) (ha:a.length≤140737488351232) (hb:b.length≤140737488351232):∀m i:Nat,i+m=a.length→TT.lim 34 [.s a,.s b,.i .i64 i]=some [.i .i64 0,.i .i64 ((i+common (a.drop i) (b.drop i):Nat):Int)]
 | 0,i,hi=>by
  have h0:a.drop i=[]:=List.drop_eq_nil_of_le (by omega)
  have h:¬ ((i:Int) < a.length):=by omega
  refine ay rfl rfl ?_
  simp -implicitDefEqProofs [h,h0,FW]
 | m+1,i,hi=>by
  have hlt:i < a.length:=by omega
  have h:((i:Int) < a.length):=by omega
  by_cases hlb:i < b.length
  rotate_left
  ·have h0:b.drop i=[]:=List.drop_eq_nil_of_le (by omega)
   have h1:¬ ((i:Int) < b.length):=by omega
   refine ay rfl rfl ?_
   simp -implicitDefEqProofs [h,h0,h1,ad6]
  have hb1:((i:Int) < b.length):=by omega
  have ih:TT.lim 34 [.s a,.s b,.i .i64 ((i:Int)+1)]=_:=U9 a b ha hb m (i+1) (by omega)
  have hw:=wrap64 (n:=(i:Int)+1) (by omega) (by omega)
  rw [List.drop_eq_getElem_cons hlt,List.drop_eq_getElem_cons hlb]
  unfold common
  by_cases e:a[i]=b[i]
  ·rw [if_pos e]
   have e':((a[i].toNat:Int)=(b[i].toNat:Int))=True:=eq_true (by rw [e])
   have e2:((i+(common (a.drop (i+1)) (b.drop (i+1))+1):Nat):Int)=((i+1+common (a.drop (i+1)) (b.drop (i+1)):Nat):Int):=by omega
   rw [e2]
   refine ay rfl rfl ?_
   simp -implicitDefEqProofs [h,hlt,hlb,hb1,e',hw,ih]
  ·rw [if_neg e]
   have e':¬ (a[i].toNat:Int)=(b[i].toNat:Int):=fun h=>e (UInt8.toNat_inj.1 (by omega))
   refine ay rfl rfl ?_
   simp -implicitDefEqProofs [h,hlt,hlb,hb1,e']
theorem Va (a b:List UInt8) (ha:a.length≤140737488351232) (hb:b.length≤140737488351232):TT.lim 33 [.s a,.s b]=some [.i .i64 (common a b)]:=by
 have k:TT.lim 34 [.s a,.s b,.i .i64 0]=_:=U9 a b ha hb a.length 0 (by omega)
 rw [List.drop_zero,List.drop_zero,Nat.zero_add] at k
 refine aA rfl rfl ?_ rfl
 simp -implicitDefEqProofs [k]
/-- A text behind another one, as it is written. -/
def Hw (a s:List UInt8):List UInt8:=gJ (common a s)++gJ (s.length - common a s)++s.drop (common a s)
theorem oneP (a s:List UInt8) (ha:a.length≤100000000) (hs:s.length≤100000000):TT.lim 32 [.s a,.s s]=some [.s (Hw a s)]:=by
 have k:=Va a s (by omega) (by omega)
 have hl:=Vb a s
 have p1:=OJ (common a s) (by omega)
 have p2:=OJ (s.length - common a s) (by omega)
 have l1:=EN (n:=common a s) (by omega)
 have l2:=EN (n:=s.length - common a s) (by omega)
 have w1:=gK (n:=(common a s:Int)) (by omega) (by omega)
 have w2:=gK (n:=(s.length:Int) - (common a s:Int)) (by omega) (by omega)
 have w3:=wrap64 (n:=(s.length:Int) - (common a s:Int)) (by omega) (by omega)
 have e2:(s.length:Int) - (common a s:Int)=((s.length - common a s:Nat):Int):=by omega
 rw [e2] at w2 w3
 refine aA rfl rfl ?_ rfl
 unfold Hw
 generalize common a s=c at *
 have h1:((gJ c).length:Int)+((gJ (s.length - c)).length:Int)≤9223372036854775807:=by omega
 have h2:((gJ c).length:Int)+((gJ (s.length - c)).length:Int)+((s.length:Int) - (c:Int))≤9223372036854775807:=by omega
 have h3:(c:Int)≤s.length:=by omega
 have h4:((s.length - c:Nat):Int)=(s.length:Int) - c:=by omega
 have hd:(s.take s.length).drop c=s.drop c:=by rw [List.take_length]
 rw [← e2] at w2 w3
 rw [← e2] at p2
 simp -implicitDefEqProofs [k,p1,p2,w1,w2,w3,h1,h2,h3,h4,hd]
def fH:List UInt8→Nat
 | []=>0
 | b::r=>b.toNat % 128+128 * fH r
def iE:Nat→List UInt8→Option Nat
 | 0,_=>none
 | _+1,[]=>none
 | n+1,b::r=>if b.toNat < 128 then some 1 else (iE n r).map (· + 1)
def lN (k:Nat) (b:Nat):Int:=if k=10∧1 < b then 3 else if 1 < k∧b=0 then 2 else 0
/-- The number that a text begins with, in how many bytes, or why there is none. -/
def ak (s:List UInt8):Nat×Nat×Int:=match iE 10 s with
 | none=>(0,0,if 10≤s.length then 3 else 1)
 | some k=>if lN k (s.getD (k - 1) 0).toNat≠0 then (0,0,lN k (s.getD (k - 1) 0).toNat) else (fH (s.take k),k,0)
theorem EM:∀ {n:Nat} {s:List UInt8} {k:Nat},iE n s=some k→1≤k∧k≤n∧k≤s.length∧(s.getD (k - 1) 0).toNat < 128
 | 0,s,k,h=>by simp [iE] at h
 | n+1,[],k,h=>by simp [iE] at h
 | n+1,b::r,k,h=>by
  unfold iE at h
  split at h
  ·next hb=>cases h;simpa using hb
  ·obtain ⟨j,hj,rfl⟩:=Option.map_eq_some_iff.1 h
   obtain ⟨h1,h2,h3,h4⟩:=EM hj
   obtain ⟨i,rfl⟩:∃i,j=i+1:=⟨j - 1,by omega⟩
   refine ⟨by omega,by omega,by simp;omega, ?_⟩
   simpa using h4
theorem P5:∀ (s:List UInt8),fH s < 128 ^ s.length
 | []=>by simp [fH]
 | b::r=>by
  have:=P5 r
  simp only [fH,List.length_cons,Nat.pow_succ]
  omega
theorem abx (b i:Nat) (hb:b < 128) (hi:i≤9) (h9:i=9→b≤1):mW .shl .u64 (b:Int) ((7 * i:Nat):Int)=some (.i .u64 ((b * 128 ^ i:Nat):Int)):=by
 have e:min ((7 * i:Nat):Int).toNat 64=7 * i:=by simp;omega
 have e2:(2:Int) ^ (7 * i)=((128 ^ i:Nat):Int):=by rw [Int.pow_mul];simp
 have hlt:b * 128 ^ i < 18446744073709551616:=by
  rcases Nat.lt_or_ge i 9 with h | h
  ·have:(128:Nat) ^ i≤128 ^ 8:=Nat.pow_le_pow_right (by omega) (by omega)
   have h2:b * 128 ^ i≤127 * 128 ^ 8:=Nat.mul_le_mul (by omega) this
   omega
  ·have hi9:i=9:=by omega
   subst hi9
   have:=h9 rfl
   omega
 unfold mW
 rw [if_neg (by omega)]
 show some (GV.i .u64 (IntKind.u64.wrap ((b:Int) * 2 ^ (min ((7 * i:Nat):Int).toNat 64))))=_
 rw [e,e2,← Int.natCast_mul,gK (by omega) (by omega)]
theorem orI (a c i:Nat) (ha:a < 2 ^ i) (h:a+c * 2 ^ i < 18446744073709551616):fF .or .u64 (a:Int) ((c * 2 ^ i:Nat):Int)=some (.i .u64 ((a+c * 2 ^ i:Nat):Int)):=by
 have h1:((BitVec.ofInt 64 (a:Int) ||| BitVec.ofInt 64 ((c * 2 ^ i:Nat):Int)).toNat:Nat)=a+c * 2 ^ i:=by
  rw [BitVec.toNat_or,BitVec.toNat_ofInt,BitVec.toNat_ofInt]
  generalize hC:c * 2 ^ i=C at *
  have e1:((a:Int) % ((2 ^ 64:Nat):Int)).toNat=a:=by omega
  have e2:((C:Int) % ((2 ^ 64:Nat):Int)).toNat=C:=by omega
  rw [e1,e2,← hC,Nat.or_comm,Nat.mul_comm,Nat.add_comm]
  exact (Nat.two_pow_add_eq_or_of_lt ha c).symm
 show some (GV.i .u64 (IntKind.u64.wrap (((BitVec.ofInt 64 (a:Int) ||| BitVec.ofInt 64 ((c * 2 ^ i:Nat):Int)).toNat:Nat):Int)))=_
 rw [h1,gK (by omega) (by omega)]
theorem BA (i:Nat):128 ^ i=2 ^ (7 * i):=by rw [Nat.pow_mul]
/-- Some number, whichever. -/
theorem aby (a b:Int) (hb:0≤b):∃r,mW .shl .u64 a b=some (.i .u64 r):=by
 unfold mW
 rw [if_neg (by omega)]
 exact ⟨_,rfl⟩
theorem or_some (a b:Int):∃r,fF .or .u64 a b=some (.i .u64 r):=⟨_,rfl⟩
def uJ (s:List UInt8) (acc:Int) (i:Nat):List GV:=match iE (10 - i) (s.drop i) with
 | none=>[.i .i64 1,.s s]
 | some k=>if lN (i+k) (s.getD (i+k - 1) 0).toNat≠0 then [.i .i64 0,.i .u64 0,.i .i64 0,.i .i64 (lN (i+k) (s.getD (i+k - 1) 0).toNat)]
  else [.i .i64 0,.i .u64 (acc+((128 ^ i * fH ((s.drop i).take k):Nat):Int)),.i .i64 ((i+k:Nat):Int),.i .i64 0]
theorem getLoop (s:List UInt8) (hs:s.length≤140737488351232):∀ (m i:Nat) (acc:Int),i+m=min s.length 10→(i≤9→0≤acc∧acc < ((128 ^ i:Nat):Int))→
 TT.lim 90 [.s s,.i .u64 acc,.i .i64 ((min s.length 10:Nat):Int),.i .i64 i]=some (uJ s acc i)
 | 0,i,acc,hi,ha=>by
  have h:¬ ((i:Int) < ((min s.length 10:Nat):Int)):=by omega
  have hv:iE (10 - i) (s.drop i)=none:=by
   rcases Nat.lt_or_ge i 10 with h1 | h1
   ·have:s.drop i=[]:=List.drop_eq_nil_of_le (by omega)
    rw [this]
    obtain ⟨j,hj⟩:∃j,10 - i=j+1:=⟨10 - i - 1,by omega⟩
    rw [hj];rfl
   ·have:10 - i=0:=by omega
    rw [this];unfold iE;rfl
  unfold uJ
  rw [hv]
  generalize ((min s.length 10:Nat):Int)=M at *
  refine ay rfl rfl ?_
  simp -implicitDefEqProofs [h]
 | m+1,i,acc,hi,ha=>by
  have hlt:i < s.length:=by omega
  have h9:i≤9:=by omega
  have h:((i:Int) < ((min s.length 10:Nat):Int)):=by omega
  obtain ⟨a1,a2⟩:=ha h9
  obtain ⟨n,rfl⟩:∃n:Nat,acc=n:=⟨acc.toNat,by omega⟩
  have hb:=(s[i]).toNat_lt
  have k7:=Qo (s[i]).toNat (by omega)
  have w8:=gK (n:=(((s[i]).toNat % 128:Nat):Int)) (by omega) (by omega)
  have wi:=wrap64 (n:=7 * (i:Int)) (by omega) (by omega)
  have wj:=wrap64 (n:=(i:Int)+1) (by omega) (by omega)
  have hd:s.drop i=s[i]::s.drop (i+1):=List.drop_eq_getElem_cons hlt
  obtain ⟨j,hj⟩:∃j,10 - i=j+1:=⟨10 - i - 1,by omega⟩
  have hj':10 - (i+1)=j:=by omega
  have e7:(7 * (i:Int))=((7 * i:Nat):Int):=by omega
  have hgd:s.getD i 0=s[i]:=by simp [List.getD,hlt]
  by_cases hc:128≤(s[i]).toNat
  ·-- another one follows
   have hc':((128:Int)≤((s[i]).toNat:Int)):=by omega
   have step:∃V:Int,(i+1≤9→0≤V∧V < ((128 ^ (i+1):Nat):Int)∧V=n+(((s[i]).toNat % 128 * 128 ^ i:Nat):Int))∧(∃S,mW .shl .u64 ((((s[i]).toNat % 128:Nat)):Int) (7 * (i:Int))=some (.i .u64 S)∧fF .or .u64 (n:Int) S=some (.i .u64 V)):=by
    rcases Nat.lt_or_ge i 9 with h1 | h1
    ·have k1:=abx ((s[i]).toNat % 128) i (by omega) (by omega) (by omega)
     have hp:(s[i]).toNat % 128 * 128 ^ i≤127 * 128 ^ i:=Nat.mul_le_mul_right _ (by omega)
     have hpp:128 ^ (i+1)=128 * 128 ^ i:=by rw [Nat.pow_succ,Nat.mul_comm]
     have hq:(128:Nat) ^ i≤128 ^ 8:=Nat.pow_le_pow_right (by omega) (by omega)
     have k2:=orI n ((s[i]).toNat % 128) (7 * i) (by rw [← BA];omega) (by rw [← BA];omega)
     rw [← BA] at k2
     refine ⟨_,fun _=>⟨by omega, ?_,rfl⟩,_,by rw [e7];exact k1,by rw [k2];simp⟩
     rw [hpp];omega
    ·obtain ⟨S,hS⟩:=aby ((((s[i]).toNat % 128:Nat)):Int) (7 * (i:Int)) (by omega)
     obtain ⟨V,hV⟩:=or_some (n:Int) S
     exact ⟨V,fun h=>by omega,S,hS,hV⟩
   obtain ⟨V,hV,S,hS,hO⟩:=step
   have ih:TT.lim 90 [.s s,.i .u64 V,.i .i64 ((min s.length 10:Nat):Int),.i .i64 ((i:Int)+1)]=_:=getLoop s hs m (i+1) V (by omega) (fun h=>⟨(hV h).1,(hV h).2.1⟩)
   have hout:uJ s n i=uJ s V (i+1):=by
    unfold uJ
    rw [hd,hj,hj']
    have hv:iE (j+1) (s[i]::s.drop (i+1))=(iE j (s.drop (i+1))).map (· + 1):=by
     show (if (s[i]).toNat < 128 then _ else _)=_
     rw [if_neg (by omega)]
    rw [hv]
    cases hx:iE j (s.drop (i+1)) with
    | none=>rfl
    | some k=>
     obtain ⟨q1,q2,_,_⟩:=EM hx
     have hV':=hV (by omega)
     have e1:i+(k+1)=i+1+k:=by omega
     simp only [Option.map_some,e1]
     split
     ·rfl
     ·have e2:(n:Int)+((128 ^ i * fH ((s[i]::s.drop (i+1)).take (k+1)):Nat):Int)=V+((128 ^ (i+1) * fH ((s.drop (i+1)).take k):Nat):Int):=by
       rw [hV'.2.2,List.take_succ_cons]
       have:128 ^ i * fH (s[i]::(s.drop (i+1)).take k)=(s[i]).toNat % 128 * 128 ^ i+128 ^ (i+1) * fH ((s.drop (i+1)).take k):=by
        show 128 ^ i * ((s[i]).toNat % 128+128 * fH _)=_
        rw [Nat.mul_add,Nat.pow_succ,Nat.mul_assoc,Nat.mul_comm (128 ^ i) ((s[i]).toNat % 128)]
       rw [this];omega
      rw [e2]
   rw [hout]
   generalize uJ s V (i+1)=O at *
   generalize ((min s.length 10:Nat):Int)=M at *
   have em:(((s[i]).toNat % 128:Nat):Int)=((s[i]).toNat:Int) % 128:=by omega
   rw [em] at k7 w8 hS
   refine ay rfl rfl ?_
   simp -implicitDefEqProofs [h,hlt,hc',k7,w8,wi,wj,hS,hO,ih]
  ·-- the last one
   have hc':¬ ((128:Int)≤((s[i]).toNat:Int)):=by omega
   have hv:iE (j+1) (s[i]::s.drop (i+1))=some 1:=by
    show (if (s[i]).toNat < 128 then _ else _)=_
    rw [if_pos (by omega)]
   have hout:uJ s n i=if lN (i+1) (s[i]).toNat≠0 then [.i .i64 0,.i .u64 0,.i .i64 0,.i .i64 (lN (i+1) (s[i]).toNat)] else [.i .i64 0,.i .u64 ((n+(s[i]).toNat * 128 ^ i:Nat):Int),.i .i64 ((i:Int)+1),.i .i64 0]:=by
    unfold uJ
    rw [hd,hj,hv]
    have e1:i+1 - 1=i:=by omega
    have e2:128 ^ i * fH ((s[i]::s.drop (i+1)).take 1)=(s[i]).toNat * 128 ^ i:=by
     simp only [List.take_succ_cons,List.take_zero,fH]
     rw [Nat.mod_eq_of_lt (by omega),Nat.mul_comm];simp
    simp only [e1,hgd,e2]
    congr 1
   rw [hout]
   have step:∃S V,mW .shl .u64 ((((s[i]).toNat % 128:Nat)):Int) (7 * (i:Int))=some (.i .u64 S)∧fF .or .u64 (n:Int) S=some (.i .u64 V)∧(lN (i+1) (s[i]).toNat=0→V=((n+(s[i]).toNat * 128 ^ i:Nat):Int)):=by
    by_cases hbad:i=9∧1 < (s[i]).toNat
    ·obtain ⟨S,hS⟩:=aby ((((s[i]).toNat % 128:Nat)):Int) (7 * (i:Int)) (by omega)
     obtain ⟨V,hV⟩:=or_some (n:Int) S
     refine ⟨S,V,hS,hV,fun h=>?_⟩
     unfold lN at h
     rw [if_pos (by omega)] at h
     cases h
    ·have k1:=abx ((s[i]).toNat % 128) i (by omega) (by omega) (by omega)
     have em:(s[i]).toNat % 128=(s[i]).toNat:=Nat.mod_eq_of_lt (by omega)
     rw [em] at k1
     have hp:(s[i]).toNat * 128 ^ i≤127 * 128 ^ i:=Nat.mul_le_mul_right _ (by omega)
     have hb64:n+(s[i]).toNat * 128 ^ i < 18446744073709551616:=by
      rcases Nat.lt_or_ge i 9 with h1 | h1
      ·have hq:(128:Nat) ^ i≤128 ^ 8:=Nat.pow_le_pow_right (by omega) (by omega)
       omega
      ·have hi9:i=9:=by omega
       have h1:(s[i]).toNat≤1:=by omega
       have hq:(128:Nat) ^ i=128 ^ 9:=by rw [hi9]
       have hp2:(s[i]).toNat * 128 ^ i≤1 * 128 ^ i:=Nat.mul_le_mul_right _ h1
       omega
     have k2:=orI n (s[i]).toNat (7 * i) (by rw [← BA];omega) (by rw [← BA];omega)
     rw [← BA] at k2
     exact ⟨_,_,by rw [e7,em];exact k1,k2,fun _=>rfl⟩
   obtain ⟨S,V,hS,hO,hV⟩:=step
   generalize ((n+(s[i]).toNat * 128 ^ i:Nat):Int)=R at *
   generalize ((min s.length 10:Nat):Int)=M at *
   have bd:lN (i+1) (s[i]).toNat=if (i:Int)=9∧(1:Int) < ((s[i]).toNat:Int) then 3 else if (0:Int) < (i:Int)∧((s[i]).toNat:Int)=0 then 2 else 0:=by
    unfold lN
    congr 1
    ·apply propext;omega
    ·congr 1
     apply propext;omega
   rw [bd] at hV ⊢
   have em:(((s[i]).toNat % 128:Nat):Int)=((s[i]).toNat:Int) % 128:=by omega
   rw [em] at k7 w8 hS
   refine ay rfl rfl ?_
   rcases (Classical.em ((i:Int)=9)).imp eq_true eq_false with q1 | q1<;>rcases (Classical.em ((1:Int) < ((s[i]).toNat:Int))).imp eq_true eq_false with q2 | q2<;>
    rcases (Classical.em ((0:Int) < (i:Int))).imp eq_true eq_false with q3 | q3<;>rcases (Classical.em (((s[i]).toNat:Int)=0)).imp eq_true eq_false with q4 | q4
   all_goals
    have En:(0 < i)=((0:Int) < (i:Int)):=propext (by omega)
    have Eo:((s[i]).toNat=0)=(((s[i]).toNat:Int)=0):=propext (by omega)
    rw [q3] at En
    rw [q4] at Eo
    simp only [q1,q2,q3,q4,and_self,and_true,and_false,false_and,true_and,if_true,if_false] at hV ⊢
    first
    | (have hV:=hV trivial;subst hV)
    | skip
    simp -implicitDefEqProofs [h,hlt,hc',k7,w8,wi,wj,hS,hO,q1,q2,q3,q4,En,Eo]
theorem pK (s:List UInt8) (hs:s.length≤140737488351232):TT.lim 89 [.s s]=some [.i .u64 ((ak s).1:Nat),.i .i64 ((ak s).2.1:Nat),.i .i64 (ak s).2.2]:=by
 have k:TT.lim 90 [.s s,.i .u64 0,.i .i64 ((min s.length 10:Nat):Int),.i .i64 0]=_:=getLoop s hs (min s.length 10) 0 0 (by omega) (by simp)
 have hm:(if (10:Int) < (s.length:Int) then (10:Int) else (s.length:Int))=((min s.length 10:Nat):Int):=by split<;>omega
 unfold uJ at k
 rw [List.drop_zero,Nat.sub_zero] at k
 unfold ak
 generalize ((min s.length 10:Nat):Int)=M at *
 refine aA rfl rfl ?_ rfl
 cases hv:iE 10 s with
 | none=>
  rw [hv] at k
  by_cases h10:10≤s.length
  ·have h1:(10:Int)≤s.length:=by omega
   simp -implicitDefEqProofs [hm,k,h10,h1]
  ·have h1:¬ (10:Int)≤s.length:=by omega
   simp -implicitDefEqProofs [hm,k,h10,h1]
 | some j=>
  rw [hv] at k
  simp only [Nat.zero_add,Nat.pow_zero,Nat.one_mul,Int.zero_add] at k
  by_cases hb:lN j (s.getD (j - 1) 0).toNat=0
  ·simp only [hb,ne_eq,not_true_eq_false,if_false] at k ⊢
   simp -implicitDefEqProofs [hm,k]
  ·simp only [hb,ne_eq,not_false_eq_true,if_true] at k ⊢
   simp -implicitDefEqProofs [hm,k]
theorem u8nat {n:Nat} (h:n < 256):(UInt8.ofNat n).toNat=n:=UInt8.toNat_ofNat_of_lt' h
def vtop (n:Nat):Nat:=if n < 128 then n else vtop (n / 128)
termination_by n
theorem vtop_lt {n:Nat} (h:n < 128):vtop n=n:=by rw [vtop,if_pos h]
theorem vtop_ge {n:Nat} (h:¬ n < 128):vtop n=vtop (n / 128):=by rw [vtop,if_neg h]
theorem vsize_lt {n:Nat} (h:n < 128):lu n=1:=by unfold lu;rw [EO h];rfl
theorem vtop_facts:∀n:Nat,vtop n < 128∧(0 < n→0 < vtop n)∧vtop n * 128 ^ (lu n - 1)≤n:=by
 intro n
 induction n using Nat.strongRecOn with
 | _ n ih=>
  by_cases h:n < 128
  ·rw [vtop_lt h,vsize_lt h];simp;omega
  ·obtain ⟨h1,h2,h3⟩:=ih (n / 128) (by omega)
   rw [vtop_ge h,JX h]
   refine ⟨h1,fun _=>h2 (by omega), ?_⟩
   have hp:=JY (n / 128)
   obtain ⟨j,hj⟩:∃j,lu (n / 128)=j+1:=⟨lu (n / 128) - 1,by omega⟩
   rw [hj] at h3 ⊢
   simp only [Nat.add_sub_cancel] at h3 ⊢
   have:vtop (n / 128) * 128 ^ (j+1)=vtop (n / 128) * 128 ^ j * 128:=by rw [Nat.pow_succ,Nat.mul_assoc]
   rw [this];omega
theorem vput_get:∀ (n:Nat) (x:List UInt8),(gJ n++x).getD (lu n - 1) 0=UInt8.ofNat (vtop n):=by
 intro n
 induction n using Nat.strongRecOn with
 | _ n ih=>
  intro x
  by_cases h:n < 128
  ·rw [vtop_lt h,vsize_lt h,EO h];rfl
  ·have hp:=JY (n / 128)
   obtain ⟨j,hj⟩:∃j,lu (n / 128)=j+1:=⟨lu (n / 128) - 1,by omega⟩
   have:=ih (n / 128) (by omega) x
   rw [vtop_ge h,JX h,PW h,← this,hj]
   simp
theorem vlen_put:∀ (n k:Nat) (x:List UInt8),lu n≤k→iE k (gJ n++x)=some (lu n):=by
 intro n
 induction n using Nat.strongRecOn with
 | _ n ih=>
  intro k x hk
  have hp:=JY n
  obtain ⟨j,rfl⟩:∃j,k=j+1:=⟨k - 1,by omega⟩
  by_cases h:n < 128
  ·rw [vsize_lt h,EO h]
   show (if (UInt8.ofNat n).toNat < 128 then _ else _)=_
   rw [if_pos (by rw [u8nat (by omega)];exact h)]
  ·rw [JX h] at hk ⊢
   rw [PW h]
   show (if (UInt8.ofNat (n % 128+128)).toNat < 128 then _ else (iE j (gJ (n / 128)++x)).map (· + 1))=_
   rw [if_neg (by rw [u8nat (by omega)];omega),ih (n / 128) (by omega) j x (by omega)]
   rfl
theorem vval_put:∀n:Nat,fH (gJ n)=n:=by
 intro n
 induction n using Nat.strongRecOn with
 | _ n ih=>
  by_cases h:n < 128
  ·rw [EO h]
   simp only [fH]
   rw [u8nat (by omega)];omega
  ·rw [PW h]
   simp only [fH]
   rw [ih (n / 128) (by omega),u8nat (by omega)];omega
theorem vget_put (n:Nat) (x:List UInt8) (hn:n < 18446744073709551616):ak (gJ n++x)=(n,(gJ n).length,0):=by
 have h1:=vlen_put n 10 x (PZ hn)
 obtain ⟨f1,f2,f3⟩:=vtop_facts n
 have hg:=vput_get n x
 have hb:lN (lu n) (UInt8.ofNat (vtop n)).toNat=0:=by
  rw [u8nat (by omega)]
  unfold lN
  rw [if_neg,if_neg]
  ·rintro ⟨h2,h3⟩
   by_cases h:n < 128
   ·rw [vsize_lt h] at h2;omega
   ·have:=f2 (by omega);omega
  ·rintro ⟨h2,h3⟩
   rw [h2] at f3
   have:2 * 128 ^ 9≤vtop n * 128 ^ 9:=Nat.mul_le_mul_right _ h3
   simp only [show 10 - 1=9 from rfl] at f3
   omega
 unfold ak
 rw [h1]
 simp only [hg,hb,ne_eq,not_true_eq_false,if_false]
 have:(gJ n++x).take (lu n)=gJ n:=by
  unfold lu;simp
 rw [this,vval_put]
 rfl
theorem amW (a:List UInt8) (b:UInt8):fH (a++[b])=fH a+128 ^ a.length * (b.toNat % 128):=by
 induction a with
 | nil=>simp [fH]
 | cons c a ih=>
  simp only [List.cons_append,fH,ih,List.length_cons,Nat.pow_succ,Nat.mul_add,Nat.add_assoc]
  rw [Nat.mul_comm (128 ^ a.length) 128,Nat.mul_assoc]
/-- Bytes that are a number's writing. -/
theorem aaG:∀ (j k:Nat) (s:List UInt8),iE j s=some k→(1 < k→(s.getD (k - 1) 0)≠0)→gJ (fH (s.take k))=s.take k∧(1 < k∨s.getD (k - 1) 0≠0→fH (s.take k)≠0)
 | 0,k,s,h,_=>by simp [iE] at h
 | j+1,k,[],h,_=>by simp [iE] at h
 | j+1,k,b::r,h,hz=>by
  unfold iE at h
  split at h
  ·next hb=>
   cases h
   simp only [List.take_succ_cons,List.take_zero,fH,Nat.mul_zero,Nat.add_zero]
   rw [Nat.mod_eq_of_lt hb]
   refine ⟨by rw [EO hb];simp,fun hh=>?_⟩
   rcases hh with hh | hh
   ·omega
   ·intro e
    apply hh
    simp only [Nat.sub_self,List.getD_cons_zero]
    exact UInt8.toNat_inj.1 (by simpa using e)
  ·next hb=>
   obtain ⟨i,hi,rfl⟩:=Option.map_eq_some_iff.1 h
   obtain ⟨q1,q2,q3,q4⟩:=EM hi
   obtain ⟨l,rfl⟩:∃l,i=l+1:=⟨i - 1,by omega⟩
   have hz':r.getD l 0≠0:=by have:=hz (by omega);simpa using this
   obtain ⟨e1,e2⟩:=aaG j (l+1) r hi (fun _=>by simpa using hz')
   have e2:=e2 (.inr (by simpa using hz'))
   have hb8:=b.toNat_lt
   rw [List.take_succ_cons]
   simp only [fH]
   refine ⟨?_,fun _=>by omega⟩
   rw [PW (by omega)]
   have a1:(b.toNat % 128+128 * fH (r.take (l+1))) % 128+128=b.toNat:=by omega
   have a2:(b.toNat % 128+128 * fH (r.take (l+1))) / 128=fH (r.take (l+1)):=by omega
   rw [a1,a2,e1];simp
structure VOk (s:List UInt8) (n k:Nat):Prop where
 pos:1≤k
 ten:k≤10
 len:k≤s.length
 lt:n < 18446744073709551616
 put:gJ n=s.take k
theorem ji {s:List UInt8} (h:(ak s).2.2=0):VOk s (ak s).1 (ak s).2.1:=by
 unfold ak at h ⊢
 cases hv:iE 10 s with
 | none=>
  rw [hv] at h
  simp only at h
  split at h<;>cases h
 | some k=>
  rw [hv] at h
  simp only at h ⊢
  obtain ⟨v1,v2,v3,v4⟩:=EM hv
  by_cases hb:lN k (s.getD (k - 1) 0).toNat=0
  ·simp only [hb,ne_eq,not_true_eq_false,if_false]
   have hz:1 < k→s.getD (k - 1) 0≠0:=by
    intro h1 h2
    unfold lN at hb
    rw [h2] at hb
    split at hb
    ·cases hb
    ·rw [if_pos ⟨h1,rfl⟩] at hb;cases hb
   refine ⟨v1,v2,v3, ?_,(aaG 10 k s hv hz).1⟩
   have e:s.take k=s.take (k - 1)++[s.getD (k - 1) 0]:=by
    obtain ⟨j,rfl⟩:∃j,k=j+1:=⟨k - 1,by omega⟩
    have:j < s.length:=by omega
    simp -implicitDefEqProofs [List.getD,this]
   have h2:=P5 (s.take (k - 1))
   rw [e,amW,List.length_take,Nat.min_eq_left (by omega)]
   rw [List.length_take,Nat.min_eq_left (by omega)] at h2
   rcases Nat.lt_or_ge k 10 with h3 | h3
   ·have hq:(128:Nat) ^ (k - 1)≤128 ^ 8:=Nat.pow_le_pow_right (by omega) (by omega)
    have hq2:128 ^ (k - 1) * ((s.getD (k - 1) 0).toNat % 128)≤128 ^ (k - 1) * 127:=Nat.mul_le_mul_left _ (by omega)
    omega
   ·have hK10:k=10:=by omega
    have hb1:(s.getD (k - 1) 0).toNat≤1:=by
     unfold lN at hb
     split at hb
     ·cases hb
     ·next h=>omega
    have hq:(128:Nat) ^ (k - 1)=128 ^ 9:=by rw [hK10]
    have hq2:128 ^ (k - 1) * ((s.getD (k - 1) 0).toNat % 128)≤128 ^ (k - 1) * 1:=Nat.mul_le_mul_left _ (by omega)
    omega
  ·simp only [hb,ne_eq,not_false_eq_true,if_true] at h
theorem xW {s:List UInt8} (h:(ak s).2.2≠0):(ak s).1=0∧(ak s).2.1=0:=by
 unfold ak at h ⊢
 cases hv:iE 10 s with
 | none=>exact ⟨rfl,rfl⟩
 | some k=>
  rw [hv] at h
  simp only at h ⊢
  by_cases hb:lN k (s.getD (k - 1) 0).toNat=0
  ·simp only [hb,ne_eq,not_true_eq_false,if_false] at h
  ·simp only [hb,ne_eq,not_false_eq_true,if_true]
   exact ⟨trivial,trivial⟩
/-- Taken of a cursor. -/
theorem Cb (t:List UInt8) (at':Nat) (h:at'≤t.length) (ht:t.length≤140737488351232) :
 TT.lim 88 [.s t,.i .i64 at']=some [.i .i64 0,.i .u64 ((ak (t.drop at')).1:Nat),.i .i64 (ak (t.drop at')).2.2,.s t,.i .i64 ((at'+(ak (t.drop at')).2.1:Nat):Int)]:=by
 have k:=pK (t.drop at') (by rw [List.length_drop];omega)
 have hd:(t.take t.length).drop at'=t.drop at':=by rw [List.take_length]
 have h1:(at':Int)≤t.length:=by omega
 refine ay rfl rfl ?_
 by_cases he:(ak (t.drop at')).2.2=0
 ·have hv:=ji he
  have hl:=hv.len
  have h10:=hv.ten
  rw [List.length_drop] at hl
  generalize (ak (t.drop at')).1=n at *
  generalize (ak (t.drop at')).2.1=j at *
  generalize (ak (t.drop at')).2.2=e at *
  have w1:=gK (n:=(j:Int)) (by omega) (by omega)
  have w2:=wrap64 (n:=(t.length:Int) - (at':Int)) (by omega) (by omega)
  have w3:=gK (n:=(t.length:Int) - (at':Int)) (by omega) (by omega)
  have w4:=wrap64 (n:=(j:Int)) (by omega) (by omega)
  have w5:=wrap64 (n:=(at':Int)+(j:Int)) (by omega) (by omega)
  have c1:¬ ((t.length:Int) - (at':Int) < (j:Int)):=by omega
  have c2:(at':Int)≤(at':Int)+(j:Int)∧(at':Int)+(j:Int)≤t.length:=by omega
  subst he
  simp -implicitDefEqProofs [hd,h1,k,w1,w2,w3,w4,w5,c1,c2]
 ·obtain ⟨e1,e2⟩:=xW he
  rw [e1,e2] at k ⊢
  generalize (ak (t.drop at')).2.2=e at *
  simp -implicitDefEqProofs [hd,h1,k,he]
def fC (e:Int):List UInt8×Nat×Int:=([],0,e)
/-- The text that stands next, how many bytes it took, and the code. -/
def aS (s a0:List UInt8) (first:Bool):List UInt8×Nat×Int:=
 let a:=if first=true then [] else a0
 let v:=ak s
 if v.2.2≠0 then fC v.2.2 else
 if a.length < v.1 then fC 23 else
 let v2:=ak (s.drop v.2.1)
 if v2.2.2≠0 then fC v2.2.2 else
 if s.length - (v.2.1+v2.2.1) < v2.1 then fC 1 else
 let t:=a.take v.1++(s.drop (v.2.1+v2.2.1)).take v2.1
 if first=false∧Op.bytesLess a t=false then fC 7 else
 if v.1 < common a t then fC 23 else (t,v.2.1+v2.2.1+v2.1,0)
theorem agV (a t:List UInt8):(Op.bytesLess t a || t==a) = !(Op.bytesLess a t):=by
 rw [FN,FN,Bool.eq_iff_iff]
 simp only [Bool.or_eq_true,decide_eq_true_iff,beq_iff_eq,Bool.not_eq_true',decide_eq_false_iff_not]
 constructor
 ·rintro (h | h) h2
  ·exact List.lt_irrefl _ (List.lt_trans h h2)
  ·subst h;exact List.lt_irrefl _ h2
 ·intro h
  by_cases h1:t < a
  ·exact .inl h1
  ·exact .inr (List.le_antisymm (List.not_lt.1 h) (List.not_lt.1 h1))
theorem KU:∀ (k:Nat) (a x:List UInt8),k≤a.length→k≤common a (a.take k++x)
 | 0,a,x,h=>by omega
 | k+1,[],x,h=>by simp at h
 | k+1,b::a,x,h=>by
  rw [List.take_succ_cons,List.cons_append]
  unfold common
  rw [if_pos rfl]
  have:=KU k a x (by simpa using h)
  omega
theorem aiE (t a:List UInt8) (first:Bool) (at':Nat) (h:at'≤t.length) (ht:t.length≤100000000) (ha:a.length≤100000000) :
 ∃at2:Nat,TT.lim 97 [.s t,.i .i64 at',.s a,.b first]=some [.i .i64 0,.s (aS (t.drop at') a first).1,.i .i64 (aS (t.drop at') a first).2.2,.s t,.i .i64 at2]∧
  ((aS (t.drop at') a first).2.2=0→at2=at'+(aS (t.drop at') a first).2.1):=by
 have k1:=Cb t at' h (by omega)
 by_cases he:(ak (t.drop at')).2.2=0
 rotate_left
 ·obtain ⟨e1,e2⟩:=xW he
  have hp:aS (t.drop at') a first=fC (ak (t.drop at')).2.2:=by unfold aS;simp only;rw [if_pos he]
  rw [e1,e2] at k1
  rw [hp]
  clear e1 e2 hp
  generalize (ak (t.drop at')).2.2=e at *
  refine ⟨at',ay rfl rfl ?_,fun h=>absurd h he⟩
  cases first<;>simp [k1,he,fC]
 have hv:=ji he
 have hl:=hv.len
 have h64:=hv.lt
 have h10:=hv.ten
 rw [List.length_drop] at hl
 have hpn:∀a':List UInt8,a'=(if first=true then [] else a)→aS (t.drop at') a first=(if a'.length < (ak (t.drop at')).1 then fC 23 else
  if (ak (t.drop (at'+(ak (t.drop at')).2.1))).2.2≠0 then fC (ak (t.drop (at'+(ak (t.drop at')).2.1))).2.2 else
  if (t.length - at') - ((ak (t.drop at')).2.1+(ak (t.drop (at'+(ak (t.drop at')).2.1))).2.1) < (ak (t.drop (at'+(ak (t.drop at')).2.1))).1 then fC 1 else
  if first=false∧Op.bytesLess a' (a'.take (ak (t.drop at')).1++(t.drop (at'+((ak (t.drop at')).2.1+(ak (t.drop (at'+(ak (t.drop at')).2.1))).2.1))).take (ak (t.drop (at'+(ak (t.drop at')).2.1))).1)=false then fC 7 else
  if (ak (t.drop at')).1 < common a' (a'.take (ak (t.drop at')).1++(t.drop (at'+((ak (t.drop at')).2.1+(ak (t.drop (at'+(ak (t.drop at')).2.1))).2.1))).take (ak (t.drop (at'+(ak (t.drop at')).2.1))).1) then fC 23 else
  (a'.take (ak (t.drop at')).1++(t.drop (at'+((ak (t.drop at')).2.1+(ak (t.drop (at'+(ak (t.drop at')).2.1))).2.1))).take (ak (t.drop (at'+(ak (t.drop at')).2.1))).1,(ak (t.drop at')).2.1+(ak (t.drop (at'+(ak (t.drop at')).2.1))).2.1+(ak (t.drop (at'+(ak (t.drop at')).2.1))).1,0)):=by
  intro a' ha'
  unfold aS
  simp only [List.drop_drop,List.length_drop,← ha',he,ne_eq,not_true_eq_false,if_false]
 rw [he] at k1
 have k2:=Cb t (at'+(ak (t.drop at')).2.1) (by omega) (by omega)
 have hv2:=fun h=>ji (s:=t.drop (at'+(ak (t.drop at')).2.1)) h
 have hv3:=fun h=>xW (s:=t.drop (at'+(ak (t.drop at')).2.1)) h
 generalize hv0:ak (t.drop at')=v at *
 obtain ⟨n,i,e⟩:=v
 simp only at *
 generalize hv1:ak (t.drop (at'+i))=v2 at *
 obtain ⟨m,j,e2⟩:=v2
 simp only at *
 clear hv0 hv1 hv
 subst he
 simp only [Int.natCast_add] at k1 k2
 -- whichever is ahead
 cases first with
 | true=>
  have hp:=hpn [] rfl
  rw [hp]
  clear hp hpn
  by_cases c1:0 < n
  ·have c1':(0:Int) < n:=by omega
   rw [if_pos (by simpa using c1)]
   refine ⟨at'+i,ay rfl rfl ?_,fun h=>by cases h⟩
   simp -implicitDefEqProofs [k1,c1,c1',fC]
  have c1':¬ (0:Int) < n:=by omega
  rw [if_neg (by simpa using c1)]
  by_cases c2:e2=0
  rotate_left
  ·obtain ⟨q1,q2⟩:=hv3 c2
   subst q1;subst q2
   rw [if_pos c2]
   refine ⟨at'+i,ay rfl rfl ?_,fun h=>absurd h c2⟩
   simp -implicitDefEqProofs [k1,k2,c1,c1',c2,fC]
  subst c2
  obtain ⟨q1,q2,q3,q4,_⟩:=hv2 rfl
  rw [List.length_drop] at q3
  rw [if_neg (by simp)]
  have w2:=wrap64 (n:=(t.length:Int) - ((at':Int)+(i:Int)+(j:Int))) (by omega) (by omega)
  have w3:=gK (n:=(t.length:Int) - ((at':Int)+(i:Int)+(j:Int))) (by omega) (by omega)
  by_cases c3:t.length - at' - (i+j) < m
  ·have c3':(t.length:Int) - ((at':Int)+(i:Int)+(j:Int)) < (m:Int):=by omega
   rw [if_pos c3]
   refine ⟨at'+i+j,ay rfl rfl ?_,fun h=>by cases h⟩
   simp -implicitDefEqProofs [k1,k2,c1,c1',w2,w3,c3',fC]
  have c3':¬ (t.length:Int) - ((at':Int)+(i:Int)+(j:Int)) < (m:Int):=by omega
  rw [if_neg c3,if_neg (by simp)]
  have n0:n=0:=by omega
  subst n0
  have hc:common [] ([]++(t.drop (at'+(i+j))).take m)=0:=FW _
  have w4:=wrap64 (n:=(m:Int)) (by omega) (by omega)
  have w5:=wrap64 (n:=(at':Int)+(i:Int)+(j:Int)+(m:Int)) (by omega) (by omega)
  have w0:=wrap64 (n:=(0:Int)) (by omega) (by omega)
  have ts:((t.take (at'+i+j+m)).drop (at'+i+j))=(t.drop (at'+(i+j))).take m:=by
   rw [← Nat.add_assoc,List.drop_take]
   congr 1;omega
  have kc:=Va [] ((t.drop (at'+(i+j))).take m) (by simp) (by simp;omega)
  rw [FW] at kc
  have c4:(at':Int)+(i:Int)+(j:Int)≤(at':Int)+(i:Int)+(j:Int)+(m:Int)∧(at':Int)+(i:Int)+(j:Int)+(m:Int)≤t.length:=by omega
  have c5:(0:Int)≤(at':Int)+(i:Int)+(j:Int):=by omega
  have t1:((at':Int)+(i:Int)+(j:Int)+(m:Int)).toNat=at'+i+j+m:=by omega
  have t2:((at':Int)+(i:Int)+(j:Int)).toNat=at'+i+j:=by omega
  rw [List.take_nil,if_neg (by rw [hc];omega)]
  have hl0:(((t.drop (at'+(i+j))).take m).length:Int)≤9223372036854775807:=by
   have:((t.drop (at'+(i+j))).take m).length≤t.length:=by rw [List.length_take,List.length_drop];omega
   omega
  refine ⟨at'+i+j+m,ay rfl rfl ?_,fun _=>by simp only;omega⟩
  rw [List.nil_append]
  generalize (t.drop (at'+(i+j))).take m=X at *
  simp -implicitDefEqProofs [k1,k2,w0,w2,w3,w4,w5,c3',c4,c5,t1,t2,ts,kc,hl0]
 | false=>
  have hp:=hpn a rfl
  rw [hp]
  clear hp hpn
  have wa:=gK (n:=(a.length:Int)) (by omega) (by omega)
  by_cases c1:a.length < n
  ·have c1':(a.length:Int) < n:=by omega
   rw [if_pos c1]
   refine ⟨at'+i,ay rfl rfl ?_,fun h=>by cases h⟩
   simp -implicitDefEqProofs [k1,c1,c1',wa,fC]
  have c1':¬ (a.length:Int) < n:=by omega
  rw [if_neg c1]
  by_cases c2:e2=0
  rotate_left
  ·obtain ⟨q1,q2⟩:=hv3 c2
   subst q1;subst q2
   rw [if_pos c2]
   refine ⟨at'+i,ay rfl rfl ?_,fun h=>absurd h c2⟩
   simp -implicitDefEqProofs [k1,k2,c1,c1',c2,wa,fC]
  subst c2
  obtain ⟨q1,q2,q3,q4,_⟩:=hv2 rfl
  rw [List.length_drop] at q3
  rw [if_neg (by simp)]
  have w2:=wrap64 (n:=(t.length:Int) - ((at':Int)+(i:Int)+(j:Int))) (by omega) (by omega)
  have w3:=gK (n:=(t.length:Int) - ((at':Int)+(i:Int)+(j:Int))) (by omega) (by omega)
  by_cases c3:t.length - at' - (i+j) < m
  ·have c3':(t.length:Int) - ((at':Int)+(i:Int)+(j:Int)) < (m:Int):=by omega
   rw [if_pos c3]
   refine ⟨at'+i+j,ay rfl rfl ?_,fun h=>by cases h⟩
   simp -implicitDefEqProofs [k1,k2,c1,c1',w2,w3,c3',wa,fC]
  have c3':¬ (t.length:Int) - ((at':Int)+(i:Int)+(j:Int)) < (m:Int):=by omega
  rw [if_neg c3]
  have w4:=wrap64 (n:=(m:Int)) (by omega) (by omega)
  have w5:=wrap64 (n:=(at':Int)+(i:Int)+(j:Int)+(m:Int)) (by omega) (by omega)
  have wn:=wrap64 (n:=(n:Int)) (by omega) (by omega)
  have ts:((t.take (at'+i+j+m)).drop (at'+i+j))=(t.drop (at'+(i+j))).take m:=by
   rw [← Nat.add_assoc,List.drop_take]
   congr 1;omega
  have hlx:((t.drop (at'+(i+j))).take m).length≤t.length:=by rw [List.length_take,List.length_drop];omega
  have kc:=Va a (a.take n++(t.drop (at'+(i+j))).take m) (by omega) (by rw [List.length_append,List.length_take];omega)
  have c4:(at':Int)+(i:Int)+(j:Int)≤(at':Int)+(i:Int)+(j:Int)+(m:Int)∧(at':Int)+(i:Int)+(j:Int)+(m:Int)≤t.length:=by omega
  have c5:(0:Int)≤(at':Int)+(i:Int)+(j:Int):=by omega
  have c6:(n:Int)≤a.length:=by omega
  have t1:((at':Int)+(i:Int)+(j:Int)+(m:Int)).toNat=at'+i+j+m:=by omega
  have t2:((at':Int)+(i:Int)+(j:Int)).toNat=at'+i+j:=by omega
  have hlm:(min n a.length:Nat)=n:=by omega
  have hl0:(n:Int)+(((t.drop (at'+(i+j))).take m).length:Int)≤9223372036854775807:=by omega
  have hle:=agV a (a.take n++(t.drop (at'+(i+j))).take m)
  generalize (t.drop (at'+(i+j))).take m=X at *
  by_cases c7:Op.bytesLess a (a.take n++X)=false
  ·rw [if_pos ⟨rfl,c7⟩]
   rw [c7] at hle
   refine ⟨at'+i+j+m,ay rfl rfl ?_,fun h=>by cases h⟩
   have hle':(Op.bytesLess (a.take n++X) a=true∨a.take n++X=a)=True:=eq_true (by simpa using hle)
   simp -implicitDefEqProofs [k1,k2,wa,wn,w2,w3,w4,w5,c1',c3',c4,c5,c6,t1,t2,ts,hl0,hlm,hle',fC]
  ·rw [if_neg (fun h=>c7 h.2)]
   have c7:Op.bytesLess a (a.take n++X)=true:=by simpa using c7
   rw [c7] at hle
   have hle':(Op.bytesLess (a.take n++X) a=true∨a.take n++X=a)=False:=eq_false (by simpa using hle)
   by_cases c8:n < common a (a.take n++X)
   ·have yx:(n:Int) < (common a (a.take n++X):Int):=by omega
    rw [if_pos c8]
    refine ⟨at'+i+j+m,ay rfl rfl ?_,fun h=>by cases h⟩
    simp -implicitDefEqProofs [k1,k2,wa,wn,w2,w3,w4,w5,c1',c3',c4,c5,c6,t1,t2,ts,hl0,hlm,hle',kc,yx,fC]
   ·have yx:¬ (n:Int) < (common a (a.take n++X):Int):=by omega
    rw [if_neg c8]
    refine ⟨at'+i+j+m,ay rfl rfl ?_,fun _=>by simp only;omega⟩
    simp -implicitDefEqProofs [k1,k2,wa,wn,w2,w3,w4,w5,c1',c3',c4,c5,c6,t1,t2,ts,hl0,hlm,hle',kc,yx]
theorem H9 {s a:List UInt8} {first:Bool} (h:(aS s a first).2.2=0):2≤(aS s a first).2.1∧(aS s a first).2.1≤s.length∧(aS s a first).1.length≤(if first=true then 0 else a.length)+(aS s a first).2.1:=by
 have hA:(if first=true then 0 else a.length)=(if first=true then [] else a).length:=by cases first<;>rfl
 rw [hA]
 clear hA
 unfold aS at h ⊢
 simp only at h ⊢
 generalize (if first=true then [] else a)=a' at h ⊢
 split at h
 ·next c=>exact absurd h c
 next c0=>
 rw [if_neg c0]
 split at h
 ·cases h
 next c1=>
 rw [if_neg c1]
 split at h
 ·next c=>exact absurd h c
 next c2=>
 rw [if_neg c2]
 split at h
 ·cases h
 next c3=>
 rw [if_neg c3]
 split at h
 ·cases h
 next c4=>
 rw [if_neg c4]
 split at h
 ·cases h
 next c5=>
 rw [if_neg c5]
 have v1:=ji (s:=s) (by simpa using c0)
 have v2:=ji (s:=s.drop (ak s).2.1) (by simpa using c2)
 have p1:=v1.pos
 have p2:=v2.pos
 have l1:=v1.len
 have l2:=v2.len
 rw [List.length_drop] at l2
 refine ⟨by simp only;omega,by simp only;omega, ?_⟩
 simp only [List.length_append,List.length_take,List.length_drop]
 omega
theorem oneF_len (a s:List UInt8) (hs:s.length≤100000000):(Hw a s).length≤20+s.length:=by
 have hl:=Vb a s
 have l1:=EN (n:=common a s) (by omega)
 have l2:=EN (n:=s.length - common a s) (by omega)
 unfold Hw
 simp only [List.length_append,List.length_drop]
 omega
end B
end Go.Proofs.YtpkihgnabejkkaaGreatDoor
